-- Written by a program of this session over the print of the kit (wip/t/patch_print.py).
import Derived.Test.YtcdlookokffkeaaPFnExactKeysInx0
import Derived.Test.YtcdlookokffkeaaPFnExactKeysInx3
namespace Go.Proofs.Ytcdlookokffkeaa.PFnExactKeysIn
open Go.RowKit Go.Proofs.YtcdlookokffkeaaW.PrintWords Go.Proofs.YtcdlookokffkeaaW.PrintLast Go.Proofs.YtcdlookokffkeaaW.PrintMore
attribute [local go_sem] max2_int min2_int max_two min_two max_three min_three max_four min_four   -- for this text's walks alone
set_option linter.unusedVariables false
set_option linter.unusedSimpArgs false

/-! ### spec_l6Numbers: function 58 -/
mutual
def spec_l6Numbers.j0 : Nat → Int → Bool → List (List Int) → List Int → List Int → List Int → Option (List Int × Bool)
 | 0,_,_,_,_,_,_=>none
 | k + 1,x1,x26,x172000,x172001,x172002,x172003=>if x26 = true then (some (([] : List Int),false)) else (spec_l6Numbers.l0 k x1 ([] : List Int) 0 x172000 x172001 x172002 x172003)
def spec_l6Numbers.l0 : Nat → Int → List Int → Int → List (List Int) → List Int → List Int → List Int → Option (List Int × Bool)
 | 0,_,_,_,_,_,_,_=>none
 | k + 1,x1,x8,x9,x172000,x172001,x172002,x172003=>if x9 < 32 then (if 0 ≤ x1 then (if x1 < (x172000.length : Int) then (if 0 ≤ (wrap64 (1 + (wrap64 (2 * x9)))) then (if (wrap64 (1 + (wrap64 (2 * x9)))) < ((rd_L1 x172000 x1).length : Int) then (if 0 ≤ (wrap64 (2 + (wrap64 (2 * x9)))) then (if (wrap64 (2 + (wrap64 (2 * x9)))) < ((rd_L1 x172000 x1).length : Int) then (if x8.length < 17592186044416 then (spec_l6Numbers.l0 k x1 (x8 ++ [wrap64 ((wrap64 ((wrap64 (rd (rd_L1 x172000 x1) (wrap64 (1 + (wrap64 (2 * x9)))))) * 256)) + (wrap64 (rd (rd_L1 x172000 x1) (wrap64 (2 + (wrap64 (2 * x9)))))))]) (wrap64 (x9 + 1)) x172000 x172001 x172002 x172003) else (none)) else (none)) else (none)) else (none)) else (none)) else (none)) else (none)) else (if 0 ≤ x1 then (if x1 < (x172000.length : Int) then (if 65 ≤ ((rd_L1 x172000 x1).length : Int) then (spec_l6Numbers.l1 k x8 ((rd_L1 x172000 x1).drop 65) (((rd_L1 x172000 x1).drop 65).length : Int) 0) else (none)) else (none)) else (none))
def spec_l6Numbers.l1 : Nat → List Int → List Int → Int → Int → Option (List Int × Bool)
 | 0,_,_,_,_=>none
 | k + 1,x8,x63,x64,x65=>if x65 < x64 then (if 0 ≤ x65 then (if x65 < (x63.length : Int) then (if (rd x63 x65) = 0 then (spec_l6Numbers.l1 k x8 x63 x64 (wrap64 (x65 + 1))) else (some (([] : List Int),false))) else (none)) else (none)) else (some (x8,true))
end
def spec_l6Numbers.f (k : Nat) (l0_0 : List (List Int)) (l0_1 : List Int) (l0_2 : List Int) (l0_3 : List Int) (a1 : Int) (a2 : Int) : Option (List Int × Bool):=(spec_l5Live.f k l0_0 l0_1 l0_2 l0_3 a1).bind fun t172=>(if t172 = true then (if 0 ≤ a1 then (if a1 < (l0_0.length : Int) then (if 0 < ((rd_L1 l0_0 a1).length : Int) then (spec_l6Numbers.j0 k a1 ((rd (rd_L1 l0_0 a1) 0) != a2) l0_0 l0_1 l0_2 l0_3) else (none)) else (none)) else (none)) else (spec_l6Numbers.j0 k a1 true l0_0 l0_1 l0_2 l0_3))
theorem spec_l6Numbers.mono_l : ∀ k,(∀ y0 y1 y2 y3 y4 y5,LeO (spec_l6Numbers.j0 k y0 y1 y2 y3 y4 y5) (spec_l6Numbers.j0 (k + 1) y0 y1 y2 y3 y4 y5))∧(∀ y0 y1 y2 y3 y4 y5 y6,LeO (spec_l6Numbers.l0 k y0 y1 y2 y3 y4 y5 y6) (spec_l6Numbers.l0 (k + 1) y0 y1 y2 y3 y4 y5 y6))∧(∀ y0 y1 y2 y3,LeO (spec_l6Numbers.l1 k y0 y1 y2 y3) (spec_l6Numbers.l1 (k + 1) y0 y1 y2 y3))
 | 0=>⟨fun _ _ _ _ _ _ r h=>by simp [spec_l6Numbers.j0] at h,fun _ _ _ _ _ _ _ r h=>by simp [spec_l6Numbers.l0] at h,fun _ _ _ _ r h=>by simp [spec_l6Numbers.l1] at h⟩
 | k + 1=>by
  obtain ⟨ih0,ih1,ih2⟩:=spec_l6Numbers.mono_l k;refine ⟨?_,?_,?_⟩
  ·intro y0 y1 y2 y3 y4 y5;unfold spec_l6Numbers.j0
   repeat' first|(with_reducible first|exact ih0 _ _ _ _ _ _|exact ih1 _ _ _ _ _ _ _|exact ih2 _ _ _ _|exact spec_l5Live.mono _ _ _ _ _ _|exact LeO.refl _|exact LeO.none _|refine LeO.ite ?_ ?_|refine LeO.bind ?_ (fun _=>?_))|exact ih0 _ _ _ _ _ _|exact ih1 _ _ _ _ _ _ _|exact ih2 _ _ _ _|exact spec_l5Live.mono _ _ _ _ _ _|exact LeO.none _|refine LeO.ite ?_ ?_|refine LeO.bind ?_ (fun _=>?_)
  ·intro y0 y1 y2 y3 y4 y5 y6;unfold spec_l6Numbers.l0
   repeat' first|(with_reducible first|exact ih0 _ _ _ _ _ _|exact ih1 _ _ _ _ _ _ _|exact ih2 _ _ _ _|exact spec_l5Live.mono _ _ _ _ _ _|exact LeO.refl _|exact LeO.none _|refine LeO.ite ?_ ?_|refine LeO.bind ?_ (fun _=>?_))|exact ih0 _ _ _ _ _ _|exact ih1 _ _ _ _ _ _ _|exact ih2 _ _ _ _|exact spec_l5Live.mono _ _ _ _ _ _|exact LeO.none _|refine LeO.ite ?_ ?_|refine LeO.bind ?_ (fun _=>?_)
  ·intro y0 y1 y2 y3;unfold spec_l6Numbers.l1
   repeat' first|(with_reducible first|exact ih0 _ _ _ _ _ _|exact ih1 _ _ _ _ _ _ _|exact ih2 _ _ _ _|exact spec_l5Live.mono _ _ _ _ _ _|exact LeO.refl _|exact LeO.none _|refine LeO.ite ?_ ?_|refine LeO.bind ?_ (fun _=>?_))|exact ih0 _ _ _ _ _ _|exact ih1 _ _ _ _ _ _ _|exact ih2 _ _ _ _|exact spec_l5Live.mono _ _ _ _ _ _|exact LeO.none _|refine LeO.ite ?_ ?_|refine LeO.bind ?_ (fun _=>?_)
theorem spec_l6Numbers.mono : ∀ a0 a1 a2 a3 a4 a5 k,LeO (spec_l6Numbers.f k a0 a1 a2 a3 a4 a5) (spec_l6Numbers.f (k + 1) a0 a1 a2 a3 a4 a5):=by
 intro a0 a1 a2 a3 a4 a5 k;obtain ⟨ih0,ih1,ih2⟩:=spec_l6Numbers.mono_l k;unfold spec_l6Numbers.f
 repeat' first|(with_reducible first|exact ih0 _ _ _ _ _ _|exact ih1 _ _ _ _ _ _ _|exact ih2 _ _ _ _|exact spec_l5Live.mono _ _ _ _ _ _|exact LeO.refl _|exact LeO.none _|refine LeO.ite ?_ ?_|refine LeO.bind ?_ (fun _=>?_))|exact ih0 _ _ _ _ _ _|exact ih1 _ _ _ _ _ _ _|exact ih2 _ _ _ _|exact spec_l5Live.mono _ _ _ _ _ _|exact LeO.none _|refine LeO.ite ?_ ?_|refine LeO.bind ?_ (fun _=>?_)
def spec_l6Numbers.T7 : Bool × List (List Nat × List Nat):=(true,[([],[]),([],[]),([1],[1]),([],[]),([2,3],[2,3]),([4],[4]),([],[]),([6],[6]),([7],[7]),([5,8],[5,8]),([9],[9]),([10],[10]),([11],[11]),([],[]),([13],[13]),([],[]),([14,15],[14,15]),([16],[16]),([],[]),([18],[18]),([19],[19]),([17,20],[17,20]),([21],[21]),([22],[22]),([12,23],[12,23]),([24],[24]),([0,25],[0,25]),([26,26,0,1,2,3,4,5,6,7,8,9,10,11,12,13,14,15,16,17,18,19,20,21,22,23,24,25,26],[0,26])])
def spec_l6Numbers.B7 : List Nat:=[0,0,2,0,14,30,0,64,192,510,1022,2046,4094,0,8192,0,57344,122880,0,262144,786432,2088960,4186112,8380416,16777214,33554430,67108863,134217727]
theorem spec_l6Numbers.tab7 : rtab .any (opsOf Try.f58 7) = spec_l6Numbers.T7:=by kernel_rfl
theorem spec_l6Numbers.bits7 : waitsOk spec_l6Numbers.T7.2 spec_l6Numbers.B7 = true:=by kernel_rfl
set_option maxHeartbeats 8000000 in
set_option maxRecDepth 100000 in
theorem spec_l6Numbers.calls (k : Nat) (A0_0 : Option Addr) (c0_0 : Nat) (l0_0 : List (List Int)) (A0_1 : Option Addr) (c0_1 : Nat) (l0_1 : List Int) (A0_2 : Option Addr) (c0_2 : Nat) (l0_2 : List Int) (A0_3 : Option Addr) (c0_3 : Nat) (l0_3 : List Int) (a1 : Int) (a2 : Int) (r1 : List Int) (r2 : Bool) (w : World) (hr0_0 : Kd.C (Kd.slice 5 (Kd.int .u8)) w A0_0 l0_0.length l0_0) (hc0_0 : l0_0.length ≤ c0_0) (hr0_1 : Kd.C (Kd.int .u8) w A0_1 l0_1.length l0_1) (hc0_1 : l0_1.length ≤ c0_1) (hr0_2 : Kd.C (Kd.int .i64) w A0_2 l0_2.length l0_2) (hc0_2 : l0_2.length ≤ c0_2) (hr0_3 : Kd.C (Kd.int .i64) w A0_3 l0_3.length l0_3) (hc0_3 : l0_3.length ≤ c0_3) (h : spec_l6Numbers.f k l0_0 l0_1 l0_2 l0_3 a1 a2 = some (r1,r2)) :
  Calls Try.prog 58 #[.agg #[.slice A0_0 l0_0.length c0_0,.slice A0_1 l0_1.length c0_1,.slice A0_2 l0_2.length c0_2,.slice A0_3 l0_3.length c0_3],.int .i64 a1,.int .u8 a2] w fun e w'=>∃ v0_ : Value,e = .returned (.tuple #[v0_,.bool r2])∧Kd.R (Kd.int .i64) 3 w' w.heap.size (fun _=>True) v0_ r1∧Below w.heap.size w w':=by
 have hu30:=Try.underlying30;have HR0_0:=Qa hr0_0;have HC0_0:=Qa hc0_0;clear hr0_0 hc0_0;have HR0_1:=Qa hr0_1;have HC0_1:=Qa hc0_1;clear hr0_1 hc0_1;have HR0_2:=Qa hr0_2;have HC0_2:=Qa hc0_2;clear hr0_2 hc0_2;have HR0_3:=Qa hr0_3;have HC0_3:=Qa hc0_3;clear hr0_3 hc0_3;have HB:=Qa (Below.refl w.heap.size w);have H : ((spec_l5Live.f k l0_0 l0_1 l0_2 l0_3 a1).bind fun t172=>(if t172 = true then (if 0 ≤ a1 then (if a1 < (l0_0.length : Int) then (if 0 < ((rd_L1 l0_0 a1).length : Int) then (spec_l6Numbers.j0 k a1 ((rd (rd_L1 l0_0 a1) 0) != a2) l0_0 l0_1 l0_2 l0_3) else (none)) else (none)) else (none)) else (spec_l6Numbers.j0 k a1 true l0_0 l0_1 l0_2 l0_3))) = some (r1,r2):=h;clear h;have HC4:=Qa H;clear H;go_enter Try.func58,Try.ntmps58;go_upto_region 1 with (first|((with_reducible refine gate_dst (N:=3) rfl ?_);refine box_event ?hg (N:=3) ?hd (cs:=#[.slice A0_0 l0_0.length c0_0,.slice A0_1 l0_1.length c0_1,.slice A0_2 l0_2.length c0_2,.slice A0_3 l0_3.length c0_3]) (t:=30) ?hr ?_;(case hd=>rfl);(case hg=>rfl);(case hr=>first|(go_simp;done)|(go_simp;rfl));intro gb171 hg w5 hbox hb;have n0_:=Qa (Qm (by repeat (first|exact HB.o|apply Qk|apply Qi|apply Qj)) hb);have n1_:=Qa (hbox);have n2_:=Qa ((by rw [hg];exact (Qn (by repeat (first|exact HB.o|apply Qk|apply Qi|apply Qj))) : w.heap.size ≤ gb171));have n3_:=Qa ((by rw [hg];exact (Qn (by repeat (first|exact HB.o|apply Qk|apply Qi|apply Qj))) : w.heap.size ≤ gb171));clear HB;have HB:=n0_;have BK171:=n1_;have GW171:=n2_;have GE171:=n3_;clear n0_ n1_ n2_ n3_;clear hb hbox hg));(try simp only [Act.put,QJ,QK,QL]);go_cut [26] (fun v26 wc=>∃ (kq : Nat) (x26_3 : Bool),v26 = .bool x26_3∧Aside0 (spec_l6Numbers.j0 kq a1 x26_3 l0_0 l0_1 l0_2 l0_3 = some (r1,r2))∧Aside0 (kq ≤ k)∧Aside0 (wc.heap[gb171]? = some (.cells #[(.slice A0_0 l0_0.length c0_0),(.slice A0_1 l0_1.length c0_1),(.slice A0_2 l0_2.length c0_2),(.slice A0_3 l0_3.length c0_3)] 30 (0,0)))∧Aside0 (Below w.heap.size w wc))
 case first =>
  have H:=HC4.o;clear HC4;replace H:=QF H;obtain ⟨t172,A60,H⟩:=H;replace H : (if t172 = true then (if 0 ≤ a1 then (if a1 < (l0_0.length : Int) then (if 0 < ((rd_L1 l0_0 a1).length : Int) then (spec_l6Numbers.j0 k a1 ((rd (rd_L1 l0_0 a1) 0) != a2) l0_0 l0_1 l0_2 l0_3) else (none)) else (none)) else (none)) else (spec_l6Numbers.j0 k a1 true l0_0 l0_1 l0_2 l0_3)) = some (r1,r2):=H;have A6:=Qa A60;clear A60
  by_cases c7 : t172 = true
  ·subst c7;(have H1 : (if 0 ≤ a1 then (if a1 < (l0_0.length : Int) then (if 0 < ((rd_L1 l0_0 a1).length : Int) then (spec_l6Numbers.j0 k a1 ((rd (rd_L1 l0_0 a1) 0) != a2) l0_0 l0_1 l0_2 l0_3) else (none)) else (none)) else (none)) = some (r1,r2):=by rw [if_pos rfl] at H;exact H);clear H;have H:=H1;clear H1
   by_cases c8 : 0 ≤ a1
   ·rw [if_pos c8] at H;have c8b0 : decide (0 ≤ a1) = true:=QH c8;clear c8;(first|rw [c8b0]|(simp only [i64_w,i32_w];rw [c8b0])|skip)
    by_cases c9 : a1 < (l0_0.length : Int)
    ·rw [if_pos c9] at H;have c9b0 : decide (a1 < (l0_0.length : Int)) = true:=QH c9;clear c9
     by_cases c10 : 0 < ((rd_L1 l0_0 a1).length : Int)
     ·rw [if_pos c10] at H;have c10b0 : decide (0 < ((rd_L1 l0_0 a1).length : Int)) = true:=QH c10;have c10b1 : decide (0 < (rd_L1 l0_0 a1).length) = true:=QH (by omega);clear c10;have H':=Qa H;clear H;have hcz11_0 : w5.cell? ⟨gb171,0,none⟩ = some (.slice A0_0 l0_0.length c0_0):=(Qb BK171.o 0).trans rfl;have hcz11_1 : w5.cell? ⟨gb171,1,none⟩ = some (.slice A0_1 l0_1.length c0_1):=(Qb BK171.o 1).trans rfl;have hcz11_2 : w5.cell? ⟨gb171,2,none⟩ = some (.slice A0_2 l0_2.length c0_2):=(Qb BK171.o 2).trans rfl;have hcz11_3 : w5.cell? ⟨gb171,3,none⟩ = some (.slice A0_3 l0_3.length c0_3):=(Qb BK171.o 3).trans rfl;have hfz11_0:=Qc BK171.o 0;have hfz11_1:=Qc BK171.o 1;have hfz11_2:=Qc BK171.o 2;have hfz11_3:=Qc BK171.o 3;go_wp2_with (first|((with_reducible refine gate_callee (f:=73) rfl ?_);refine goesL_ (some 14) rfl rfl Try.func73 (by kernel_rfl) rfl #[.agg #[.slice A0_0 l0_0.length c0_0,.slice A0_1 l0_1.length c0_1,.slice A0_2 l0_2.length c0_2,.slice A0_3 l0_3.length c0_3],.int .i64 a1] rfl (by (try simp only [QM,QN,QO]);first|done|rfl|(simp only [List.length_drop,List.length_take];rfl)) ?_;(with_reducible refine (spec_l5Live.calls k _ _ l0_0 _ _ l0_1 _ _ l0_2 _ _ l0_3 a1 true _ ?side1 ?side2 ?side3 ?side4 ?side5 ?side6 ?side7 ?side8 A6.o).mono ?_);(case side1=>repeat (first|exact (Qo HR0_0.o HB.o)|(with_reducible first|apply Qp|apply Qq|apply Qr)));(case side2=>exact HC0_0.o);(case side3=>repeat (first|exact (Qo HR0_1.o HB.o)|(with_reducible first|apply Qp|apply Qq|apply Qr)));(case side4=>exact HC0_1.o);(case side5=>repeat (first|exact (Qo HR0_2.o HB.o)|(with_reducible first|apply Qp|apply Qq|apply Qr)));(case side6=>exact HC0_2.o);(case side7=>repeat (first|exact (Qo HR0_3.o HB.o)|(with_reducible first|apply Qp|apply Qq|apply Qr)));(case side8=>exact HC0_3.o);rintro e w12 ⟨rfl,hb⟩;refine ⟨_,rfl,?_⟩;have n0_:=Qa (Qd (g:=gb171) (o:=.cells #[.slice A0_0 l0_0.length c0_0,.slice A0_1 l0_1.length c0_1,.slice A0_2 l0_2.length c0_2,.slice A0_3 l0_3.length c0_3] 30 (0,0)) (by (with_reducible repeat first|apply Qf|apply blk_drew|apply Qe);exact BK171.o) hb);have n1_:=Qa (Qm (by repeat (first|(with_reducible first|exact HB.o|apply Qk|apply Qi|apply Qj|refine Ql ?_ GE171.o)|exact HB.o)) hb);clear BK171;clear HB;have BK171:=n0_;have HB:=n1_;clear n0_ n1_;(try clear hb);(try clear hb2);(try clear hk);(try clear hi);have hcz13_0 : w12.cell? ⟨gb171,0,none⟩ = some (.slice A0_0 l0_0.length c0_0):=(Qb BK171.o 0).trans rfl;have hcz13_1 : w12.cell? ⟨gb171,1,none⟩ = some (.slice A0_1 l0_1.length c0_1):=(Qb BK171.o 1).trans rfl;have hcz13_2 : w12.cell? ⟨gb171,2,none⟩ = some (.slice A0_2 l0_2.length c0_2):=(Qb BK171.o 2).trans rfl;have hcz13_3 : w12.cell? ⟨gb171,3,none⟩ = some (.slice A0_3 l0_3.length c0_3):=(Qb BK171.o 3).trans rfl;have hfz13_0:=Qc BK171.o 0;have hfz13_1:=Qc BK171.o 1;have hfz13_2:=Qc BK171.o 2;have hfz13_3:=Qc BK171.o 3;have p173 : 0 ≤ (a1 : Int):=QG (by assumption);have q173 : a1 < (l0_0.length : Int):=QG (by assumption);obtain ⟨ad173,A173_0,c173_0,e173,hx173_0,hl173_0,hi173_0⟩:=at_L1 HR0_0.o a1 p173 q173;cases e173;(try replace hx173_0:=(HB.o.cell (World.block_lt_of_cell? w _ hx173_0)).trans hx173_0);have HR173_0:=Qa hi173_0;have HC173_0:=Qa hl173_0;clear hi173_0 hl173_0;replace p173:=eq_true p173;replace q173:=eq_true q173;have p174 : 0 ≤ (0 : Int):=(by omega);have q174 : 0 < ((rd_L1 l0_0 a1).length : Int):=QG (by assumption);obtain ⟨ad174,e174,hx174_0⟩:=Kd.at_int HR173_0.o 0 p174 q174;cases e174;have qi174 : (0 < (rd_L1 l0_0 a1).length) = True:=eq_true (by omega);(try rw [show ((0 : Int)).toNat = 0 from rfl] at hx174_0);(try rw [Addr.add_zero'] at hx174_0);(try replace hx174_0:=(HB.o.cell (World.block_lt_of_cell? w _ hx174_0)).trans hx174_0);replace p174:=eq_true p174;replace q174:=eq_true q174));go_meet
      case rel=>exact ⟨_,(((rd (rd_L1 l0_0 a1) 0) != a2)),(by first|rfl|(simp;done)|(simp [*];done)),H',⟨by first|omega|exact QS _⟩,⟨by (with_reducible repeat first|apply Qf|apply blk_drew|apply Qe);exact BK171.o⟩,⟨by repeat (first|(with_reducible first|exact HB.o|apply Qk|apply Qi|apply Qj|refine Ql ?_ GE171.o)|exact HB.o)⟩⟩
     ·rw [if_neg c10] at H;exact absurd H (by simp)
    ·rw [if_neg c9] at H;exact absurd H (by simp)
   ·rw [if_neg c8] at H;exact absurd H (by simp)
  ·replace c7:=QQ c7;subst c7;(have H1 : (spec_l6Numbers.j0 k a1 true l0_0 l0_1 l0_2 l0_3) = some (r1,r2):=by rw [if_neg (show ¬ (false = true) by decide)] at H;exact H);clear H;have H:=H1;clear H1;have H':=Qa H;clear H;have hcz14_0 : w5.cell? ⟨gb171,0,none⟩ = some (.slice A0_0 l0_0.length c0_0):=(Qb BK171.o 0).trans rfl;have hcz14_1 : w5.cell? ⟨gb171,1,none⟩ = some (.slice A0_1 l0_1.length c0_1):=(Qb BK171.o 1).trans rfl;have hcz14_2 : w5.cell? ⟨gb171,2,none⟩ = some (.slice A0_2 l0_2.length c0_2):=(Qb BK171.o 2).trans rfl;have hcz14_3 : w5.cell? ⟨gb171,3,none⟩ = some (.slice A0_3 l0_3.length c0_3):=(Qb BK171.o 3).trans rfl;have hfz14_0:=Qc BK171.o 0;have hfz14_1:=Qc BK171.o 1;have hfz14_2:=Qc BK171.o 2;have hfz14_3:=Qc BK171.o 3;go_wp2_with (first|((with_reducible refine gate_callee (f:=73) rfl ?_);refine goesL_ (some 14) rfl rfl Try.func73 (by kernel_rfl) rfl #[.agg #[.slice A0_0 l0_0.length c0_0,.slice A0_1 l0_1.length c0_1,.slice A0_2 l0_2.length c0_2,.slice A0_3 l0_3.length c0_3],.int .i64 a1] rfl (by (try simp only [QM,QN,QO]);first|done|rfl|(simp only [List.length_drop,List.length_take];rfl)) ?_;(with_reducible refine (spec_l5Live.calls k _ _ l0_0 _ _ l0_1 _ _ l0_2 _ _ l0_3 a1 false _ ?side1 ?side2 ?side3 ?side4 ?side5 ?side6 ?side7 ?side8 A6.o).mono ?_);(case side1=>repeat (first|exact (Qo HR0_0.o HB.o)|(with_reducible first|apply Qp|apply Qq|apply Qr)));(case side2=>exact HC0_0.o);(case side3=>repeat (first|exact (Qo HR0_1.o HB.o)|(with_reducible first|apply Qp|apply Qq|apply Qr)));(case side4=>exact HC0_1.o);(case side5=>repeat (first|exact (Qo HR0_2.o HB.o)|(with_reducible first|apply Qp|apply Qq|apply Qr)));(case side6=>exact HC0_2.o);(case side7=>repeat (first|exact (Qo HR0_3.o HB.o)|(with_reducible first|apply Qp|apply Qq|apply Qr)));(case side8=>exact HC0_3.o);rintro e w15 ⟨rfl,hb⟩;refine ⟨_,rfl,?_⟩;have n0_:=Qa (Qd (g:=gb171) (o:=.cells #[.slice A0_0 l0_0.length c0_0,.slice A0_1 l0_1.length c0_1,.slice A0_2 l0_2.length c0_2,.slice A0_3 l0_3.length c0_3] 30 (0,0)) (by (with_reducible repeat first|apply Qf|apply blk_drew|apply Qe);exact BK171.o) hb);have n1_:=Qa (Qm (by repeat (first|(with_reducible first|exact HB.o|apply Qk|apply Qi|apply Qj|refine Ql ?_ GE171.o)|exact HB.o)) hb);clear BK171;clear HB;have BK171:=n0_;have HB:=n1_;clear n0_ n1_;(try clear hb);(try clear hb2);(try clear hk);(try clear hi)));go_meet
   case rel=>exact ⟨_,(true),(by first|rfl|(simp;done)|(simp [*];done)),H',⟨by first|omega|exact QS _⟩,⟨by (with_reducible repeat first|apply Qf|apply blk_drew|apply Qe);exact BK171.o⟩,⟨by repeat (first|(with_reducible first|exact HB.o|apply Qk|apply Qi|apply Qj|refine Ql ?_ GE171.o)|exact HB.o)⟩⟩
 case rest =>
  clear HC4;(try clear c1;try clear p1;try clear q1;try clear hx1;try clear qi1;try clear p2;try clear c5;try clear c7;try clear c8;try clear c8b0;try clear c9;try clear c9b0;try clear c10;try clear c10b0;try clear c10b1;try clear hcz11_0;try clear hcz11_1;try clear hcz11_2;try clear hcz11_3;try clear hcz13_0;try clear hcz13_1;try clear hcz13_2;try clear hcz13_3;try clear hcz14_0;try clear hcz14_1;try clear hcz14_2;try clear hcz14_3;try clear hfz11_0;try clear hfz11_1;try clear hfz11_2;try clear hfz11_3;try clear hfz13_0;try clear hfz13_1;try clear hfz13_2;try clear hfz13_3;try clear hfz14_0;try clear hfz14_1;try clear hfz14_2;try clear hfz14_3;try clear hx173_0;try clear hx174_0;try clear p173;try clear p174;try clear q173;try clear q174);obtain ⟨kq,x26_3,rfl,HA,HJ3,BK171,HB⟩:=hcut
  cases kq with
  | zero=>exact absurd HA.out (by simp [spec_l6Numbers.j0])
  | succ kj3 =>
   have H:=HA.out;clear HA;simp only [spec_l6Numbers.j0] at H
   by_cases c16 : x26_3 = true
   ·subst c16;(have H1 : (some (([] : List Int),false)) = some (r1,r2):=by rw [if_pos rfl] at H;exact H);clear H;have H:=H1;clear H1;simp only [Option.some.injEq,Prod.mk.injEq] at H;obtain ⟨rfl,rfl⟩:=H;go_wp2;go_ret2;exact ⟨_,by first|rfl|(simp [*,errW_none,errW_some] <;> rfl),by first|exact Kd.R_nil _ _ _ _ _|exact Kd.N_nil _ _ _ _ _|exact Kd.V_nil _ _ _ _ _|exact Kd.Q_nil _ _ _ _ _|exact Kd.S_nil _ _ _ _ _,by repeat (first|(with_reducible first|exact HB.o|apply Qk|apply Qi|apply Qj|refine Ql ?_ GE171.o)|exact HB.o)⟩
   ·replace c16:=QQ c16;subst c16;(have H1 : (spec_l6Numbers.l0 kj3 a1 ([] : List Int) 0 l0_0 l0_1 l0_2 l0_3) = some (r1,r2):=by rw [if_neg (show ¬ (false = true) by decide)] at H;exact H);clear H;have H:=H1;clear H1;have H':=Qa H;clear H;go_wp2;go_loopg [8,9] kj3 (fun kq v8 v9 w'=>∃ (x8_2 : List Int) (x9_2 : Int),v9 = .int .i64 x9_2∧Aside0 (spec_l6Numbers.l0 kq a1 x8_2 x9_2 l0_0 l0_1 l0_2 l0_3 = some (r1,r2))∧Aside0 (kq ≤ kj3)∧Aside0 (Kd.R (Kd.int .i64) 3 w' w.heap.size (fun _=>True) v8 x8_2)∧Aside0 (w'.heap[gb171]? = some (.cells #[(.slice A0_0 l0_0.length c0_0),(.slice A0_1 l0_1.length c0_1),(.slice A0_2 l0_2.length c0_2),(.slice A0_3 l0_3.length c0_3)] 30 (0,0)))∧Aside0 (Below w.heap.size w w'))
    case atStart=>exact ⟨(([] : List Int)),(0),(by first|rfl|(simp;done)|(simp [*];done)),H',⟨QS _⟩,⟨by first|exact Kd.R_nil _ _ _ _ _|exact Kd.N_nil _ _ _ _ _|exact Kd.V_nil _ _ _ _ _|exact Kd.Q_nil _ _ _ _ _|exact Kd.S_nil _ _ _ _ _⟩,⟨by (with_reducible repeat first|apply Qf|apply blk_drew|apply Qe);exact BK171.o⟩,⟨by repeat (first|(with_reducible first|exact HB.o|apply Qk|apply Qi|apply Qj|refine Ql ?_ GE171.o)|exact HB.o)⟩⟩
    case round =>
     clear H';(try clear c1;try clear p1;try clear q1;try clear hx1;try clear qi1;try clear p2;try clear c5;try clear c7;try clear c8;try clear c8b0;try clear c9;try clear c9b0;try clear c10;try clear c10b0;try clear c10b1;try clear c16;try clear hcz11_0;try clear hcz11_1;try clear hcz11_2;try clear hcz11_3;try clear hcz13_0;try clear hcz13_1;try clear hcz13_2;try clear hcz13_3;try clear hcz14_0;try clear hcz14_1;try clear hcz14_2;try clear hcz14_3;try clear hfz11_0;try clear hfz11_1;try clear hfz11_2;try clear hfz11_3;try clear hfz13_0;try clear hfz13_1;try clear hfz13_2;try clear hfz13_3;try clear hfz14_0;try clear hfz14_1;try clear hfz14_2;try clear hfz14_3;try clear hx173_0;try clear hx174_0;try clear p1;try clear p173;try clear p174;try clear p2;try clear q1;try clear q173;try clear q174);obtain ⟨x8_2,x9_2,rfl,HA,HK2,HO_8,BK171,HB⟩:=hrel
     cases gk with
     | zero=>exact absurd HA.out (by simp [spec_l6Numbers.l0])
     | succ k2 =>
      have H:=HA.out;clear HA;simp only [spec_l6Numbers.l0] at H
      by_cases c17 : x9_2 < 32
      ·rw [if_pos c17] at H;have c17b0 : decide (x9_2 < 32) = true:=QH c17;clear c17
       by_cases c18 : 0 ≤ a1
       ·rw [if_pos c18] at H;have c18b0 : decide (0 ≤ a1) = true:=QH c18;clear c18
        by_cases c19 : a1 < (l0_0.length : Int)
        ·rw [if_pos c19] at H;have c19b0 : decide (a1 < (l0_0.length : Int)) = true:=QH c19;clear c19;obtain ⟨ji20,hji20⟩ : ∃ j_ : Int,(wrap64 (1 + (wrap64 (2 * x9_2)))) = j_:=⟨_,rfl⟩;(replace H : (if 0 ≤ (ji20) then (if (ji20) < ((rd_L1 l0_0 a1).length : Int) then (if 0 ≤ (wrap64 (2 + (wrap64 (2 * x9_2)))) then (if (wrap64 (2 + (wrap64 (2 * x9_2)))) < ((rd_L1 l0_0 a1).length : Int) then (if x8_2.length < 17592186044416 then (spec_l6Numbers.l0 k2 a1 (x8_2 ++ [wrap64 ((wrap64 ((wrap64 (rd (rd_L1 l0_0 a1) (ji20))) * 256)) + (wrap64 (rd (rd_L1 l0_0 a1) (wrap64 (2 + (wrap64 (2 * x9_2)))))))]) (wrap64 (x9_2 + 1)) l0_0 l0_1 l0_2 l0_3) else (none)) else (none)) else (none)) else (none)) else (none)) = some (r1,r2):=by first|(rw [hji20] at H;exact H)|(simp only [hji20] at H ⊢;exact H));have hji20w : (IntKind.i64.wrap (1 + (wrap64 (2 * x9_2)))) = ji20:=(i64_w _).trans hji20
         by_cases c21 : 0 ≤ (ji20)
         ·rw [if_pos c21] at H;have c21b0 : decide (0 ≤ (ji20)) = true:=QH c21;clear c21
          by_cases c22 : (ji20) < ((rd_L1 l0_0 a1).length : Int)
          ·rw [if_pos c22] at H;have c22b0 : decide ((ji20) < ((rd_L1 l0_0 a1).length : Int)) = true:=QH c22;clear c22;obtain ⟨ji23,hji23⟩ : ∃ j_ : Int,(wrap64 (2 + (wrap64 (2 * x9_2)))) = j_:=⟨_,rfl⟩;(replace H : (if 0 ≤ (ji23) then (if (ji23) < ((rd_L1 l0_0 a1).length : Int) then (if x8_2.length < 17592186044416 then (spec_l6Numbers.l0 k2 a1 (x8_2 ++ [wrap64 ((wrap64 ((wrap64 (rd (rd_L1 l0_0 a1) (ji20))) * 256)) + (wrap64 (rd (rd_L1 l0_0 a1) (ji23))))]) (wrap64 (x9_2 + 1)) l0_0 l0_1 l0_2 l0_3) else (none)) else (none)) else (none)) = some (r1,r2):=by first|(rw [hji23] at H;exact H)|(simp only [hji23] at H ⊢;exact H));have hji23w : (IntKind.i64.wrap (2 + (wrap64 (2 * x9_2)))) = ji23:=(i64_w _).trans hji23
           by_cases c24 : 0 ≤ (ji23)
           ·rw [if_pos c24] at H;have c24b0 : decide (0 ≤ (ji23)) = true:=QH c24;clear c24
            by_cases c25 : (ji23) < ((rd_L1 l0_0 a1).length : Int)
            ·rw [if_pos c25] at H;have c25b0 : decide ((ji23) < ((rd_L1 l0_0 a1).length : Int)) = true:=QH c25;clear c25
             by_cases c26 : x8_2.length < 17592186044416
             ·rw [if_pos c26] at H;have LMc26:=Qa c26;clear c26;obtain ⟨y179,hy179⟩ : ∃ y_ : List Int,y_ = (x8_2 ++ [wrap64 ((wrap64 ((wrap64 (rd (rd_L1 l0_0 a1) (ji20))) * 256)) + (wrap64 (rd (rd_L1 l0_0 a1) (ji23))))]):=⟨_,rfl⟩;(replace H : (spec_l6Numbers.l0 k2 a1 y179 (wrap64 (x9_2 + 1)) l0_0 l0_1 l0_2 l0_3) = some (r1,r2):=by first|(rw [hy179];with_reducible exact H)|(have H2_:=(Option.bind_some _ _).symm.trans H;rw [hy179];with_reducible exact H2_)|(have H2_:=(Option.bind_some _ _).symm.trans H;with_reducible exact H2_)|with_reducible exact H|(rw [hy179];exact H)|exact H);have Ny179:=Qa hy179;clear hy179;have H':=Qa H;clear H;(try go_wp2);have n0_:=Qa (Kd.R_drew HO_8.o);have n1_:=Qa (blk_drew BK171.o);have n2_:=Qa (Qj HB.o);clear HO_8;clear BK171;clear HB;have HO_8:=n0_;have BK171:=n1_;have HB:=n2_;clear n0_ n1_ n2_;have p175 : 0 ≤ (a1 : Int):=QG (by assumption);have q175 : a1 < (l0_0.length : Int):=QG (by assumption);obtain ⟨ad175,A175_0,c175_0,e175,hx175_0,hl175_0,hi175_0⟩:=at_L1 HR0_0.o a1 p175 q175;have hw175_0:=hx175_0;cases e175;(try replace hx175_0:=(HB.o.cell (World.block_lt_of_cell? w _ hx175_0)).trans hx175_0);have HR175_0:=Qa hi175_0;have HC175_0:=Qa hl175_0;clear hi175_0 hl175_0;replace p175:=eq_true p175;replace q175:=eq_true q175;have p176 : 0 ≤ ((ji20) : Int):=QG (by assumption);have q176 : (ji20) < ((rd_L1 l0_0 a1).length : Int):=QG (by assumption);obtain ⟨ad176,e176,hx176_0⟩:=Kd.at_int HR175_0.o (ji20) p176 q176;have hw176_0:=hx176_0;cases e176;(try replace hx176_0:=(HB.o.cell (World.block_lt_of_cell? w _ hx176_0)).trans hx176_0);replace p176:=eq_true p176;replace q176:=eq_true q176;have p177 : 0 ≤ (a1 : Int):=QG (by assumption);have q177 : a1 < (l0_0.length : Int):=QG (by assumption);obtain ⟨ad177,A177_0,c177_0,e177,hx177_0,hl177_0,hi177_0⟩:=at_L1 HR0_0.o a1 p177 q177;have hw177_0:=hx177_0;obtain rfl : ad175 = ad177:=(by injection e177);(try replace hx177_0:=(HB.o.cell (World.block_lt_of_cell? w _ hx177_0)).trans hx177_0);have HR177_0:=Qa hi177_0;have HC177_0:=Qa hl177_0;clear hi177_0 hl177_0;replace p177:=eq_true p177;replace q177:=eq_true q177;have ea_:=QP (hx175_0.symm.trans hx177_0);injection ea_ with ea_ en_ ec_;subst ea_;subst ec_;clear en_;have p178 : 0 ≤ ((ji23) : Int):=QG (by assumption);have q178 : (ji23) < ((rd_L1 l0_0 a1).length : Int):=QG (by assumption);obtain ⟨ad178,e178,hx178_0⟩:=Kd.at_int HR177_0.o (ji23) p178 q178;have hw178_0:=hx178_0;obtain rfl : ad176 = ad178:=(by injection e178);(try replace hx178_0:=(HB.o.cell (World.block_lt_of_cell? w _ hx178_0)).trans hx178_0);replace p178:=eq_true p178;replace q178:=eq_true q178;refine start_ (n:=28) (S:=fun w'=>w'.cell? ⟨gb171,0,none⟩ = some (.slice (some ad175) l0_0.length c0_0)∧w'.cell? ⟨gb171,1,none⟩ = some (.slice A0_1 l0_1.length c0_1)∧w'.cell? ⟨gb171,2,none⟩ = some (.slice A0_2 l0_2.length c0_2)∧w'.cell? ⟨gb171,3,none⟩ = some (.slice A0_3 l0_3.length c0_3)∧w'.cell? (ad175.add (a1).toNat) = some (.slice (some ad176) (rd_L1 l0_0 a1).length c175_0)∧w'.cell? (ad176.add ((ji20)).toNat) = some (.int .u8 (rd (rd_L1 l0_0 a1) (ji20)))∧w'.cell? (ad175.add (a1).toNat) = some (.slice (some ad176) (rd_L1 l0_0 a1).length c175_0)∧w'.cell? (ad176.add ((ji23)).toNat) = some (.int .u8 (rd (rd_L1 l0_0 a1) (ji23)))) (ds:=[]) #[false,false,false,false,false,false,false,false,false,false,false,false,false,false,false,false,false,false,false,false,false,false,false,false,false,false,false,false] (by kernel_rfl) rfl rfl ⟨(Qb BK171.o 0).trans rfl,(Qb BK171.o 1).trans rfl,(Qb BK171.o 2).trans rfl,(Qb BK171.o 3).trans rfl,((HB.o.cell (World.block_lt_of_cell? w _ hw175_0)).trans hw175_0),((HB.o.cell (World.block_lt_of_cell? w _ hw176_0)).trans hw176_0),((HB.o.cell (World.block_lt_of_cell? w _ hw177_0)).trans hw177_0),((HB.o.cell (World.block_lt_of_cell? w _ hw178_0)).trans hw178_0)⟩ (fun hHeld=>?_);refine with_tabW spec_l6Numbers.tab7 spec_l6Numbers.bits7 (fun HT_ HW_=>?_)
              generalize wr.drew = w27 at HO_8 BK171 HB HR175_0 HR177_0 hx175_0 hx176_0 hx177_0 hx178_0 hHeld ⊢
              refine pure_ (i:=0) (N:=some 31) (v:=?_) (a':=?_) #[true,false,false,false,false,false,false,false,false,false,false,false,false,false,false,false,false,false,false,false,false,false,false,false,false,false,false,false] rfl rfl (any_of HT_.out (by kernel_rfl)) (fun _ _ _ h=>h) (Or.inl ⟨by rfl,?_⟩) ?_ ?_;rotate_left
              ·intro w';go_simp
               with_reducible rfl
              rotate_left
              ·simp only [Act.put,QJ,QK,QL,i64_w,i32_w];rfl
              refine pure_ (i:=1) (N:=some 32) (v:=?_) (a':=?_) #[true,true,false,false,false,false,false,false,false,false,false,false,false,false,false,false,false,false,false,false,false,false,false,false,false,false,false,false] rfl rfl (any_of HT_.out (by kernel_rfl)) (fun _ _ _ h=>h) (Or.inl ⟨by rfl,?_⟩) ?_ ?_;rotate_left
              ·intro w';go_simp
               with_reducible rfl
              rotate_left
              ·simp only [Act.put,QJ,QK,QL,i64_w,i32_w];rfl
              refine pure_ (i:=3) (N:=some 34) (v:=?_) (a':=?_) #[true,true,false,true,false,false,false,false,false,false,false,false,false,false,false,false,false,false,false,false,false,false,false,false,false,false,false,false] rfl rfl (any_of HT_.out (by kernel_rfl)) (fun _ _ _ h=>h) (Or.inl ⟨by rfl,?_⟩) ?_ ?_;rotate_left
              ·intro w';go_simp
               with_reducible rfl
              rotate_left
              ·simp only [Act.put,QJ,QK,QL,i64_w,i32_w];rfl
              refine pure_ (i:=6) (N:=some 37) (v:=?_) (a':=?_) #[true,true,false,true,false,false,true,false,false,false,false,false,false,false,false,false,false,false,false,false,false,false,false,false,false,false,false,false] rfl rfl (any_of HT_.out (by kernel_rfl)) (fun _ _ _ h=>h) (Or.inl ⟨by rfl,?_⟩) ?_ ?_;rotate_left
              ·intro w';go_simp
               with_reducible rfl
              rotate_left
              ·simp only [Act.put,QJ,QK,QL,i64_w,i32_w];rfl
              refine pure_ (i:=7) (N:=some 38) (v:=?_) (a':=?_) #[true,true,false,true,false,false,true,true,false,false,false,false,false,false,false,false,false,false,false,false,false,false,false,false,false,false,false,false] rfl rfl (any_of HT_.out (by kernel_rfl)) (fun _ _ _ h=>h) (Or.inl ⟨by rfl,?_⟩) ?_ ?_;rotate_left
              ·intro w';go_simp
               with_reducible rfl
              rotate_left
              ·simp only [Act.put,QJ,QK,QL,i64_w,i32_w];rfl
              refine pure_ (i:=8) (N:=some 39) (v:=?_) (a':=?_) #[true,true,false,true,false,false,true,true,true,false,false,false,false,false,false,false,false,false,false,false,false,false,false,false,false,false,false,false] rfl rfl (any_of HT_.out (by kernel_rfl)) (fun _ _ _ h=>h) (Or.inl ⟨by rfl,?_⟩) ?_ ?_;rotate_left
              ·intro w';go_simp
               with_reducible rfl
              rotate_left
              ·simp only [Act.put,QJ,QK,QL,i64_w,i32_w];rfl
              refine pure_ (i:=13) (N:=some 44) (v:=?_) (a':=?_) #[true,true,false,true,false,false,true,true,true,false,false,false,false,true,false,false,false,false,false,false,false,false,false,false,false,false,false,false] rfl rfl (any_of HT_.out (by kernel_rfl)) (fun _ _ _ h=>h) (Or.inl ⟨by rfl,?_⟩) ?_ ?_;rotate_left
              ·intro w';go_simp
               with_reducible rfl
              rotate_left
              ·simp only [Act.put,QJ,QK,QL,i64_w,i32_w];rfl
              refine pure_ (i:=15) (N:=some 46) (v:=?_) (a':=?_) #[true,true,false,true,false,false,true,true,true,false,false,false,false,true,false,true,false,false,false,false,false,false,false,false,false,false,false,false] rfl rfl (any_of HT_.out (by kernel_rfl)) (fun _ _ _ h=>h) (Or.inl ⟨by rfl,?_⟩) ?_ ?_;rotate_left
              ·intro w';go_simp
               with_reducible rfl
              rotate_left
              ·simp only [Act.put,QJ,QK,QL,i64_w,i32_w];rfl
              refine pure_ (i:=18) (N:=some 49) (v:=?_) (a':=?_) #[true,true,false,true,false,false,true,true,true,false,false,false,false,true,false,true,false,false,true,false,false,false,false,false,false,false,false,false] rfl rfl (any_of HT_.out (by kernel_rfl)) (fun _ _ _ h=>h) (Or.inl ⟨by rfl,?_⟩) ?_ ?_;rotate_left
              ·intro w';go_simp
               with_reducible rfl
              rotate_left
              ·simp only [Act.put,QJ,QK,QL,i64_w,i32_w];rfl
              refine pure_ (i:=19) (N:=some 50) (v:=?_) (a':=?_) #[true,true,false,true,false,false,true,true,true,false,false,false,false,true,false,true,false,false,true,true,false,false,false,false,false,false,false,false] rfl rfl (any_of HT_.out (by kernel_rfl)) (fun _ _ _ h=>h) (Or.inl ⟨by rfl,?_⟩) ?_ ?_;rotate_left
              ·intro w';go_simp
               with_reducible rfl
              rotate_left
              ·simp only [Act.put,QJ,QK,QL,i64_w,i32_w];rfl
              refine pure_ (i:=20) (N:=some 51) (v:=?_) (a':=?_) #[true,true,false,true,false,false,true,true,true,false,false,false,false,true,false,true,false,false,true,true,true,false,false,false,false,false,false,false] rfl rfl (any_of HT_.out (by kernel_rfl)) (fun _ _ _ h=>h) (Or.inl ⟨by rfl,?_⟩) ?_ ?_;rotate_left
              ·intro w';go_simp
               with_reducible rfl
              rotate_left
              ·simp only [Act.put,QJ,QK,QL,i64_w,i32_w];rfl
              refine take_ (i:=2) (N:=some 33) (v:=?_) (a':=?_) #[true,true,true,true,false,false,true,true,true,false,false,false,false,true,false,true,false,false,true,true,true,false,false,false,false,false,false,false] rfl rfl (take_ofW HT_.out HW_.out (by kernel_rfl)) (fun _ _ _ h=>h) (Or.inl ⟨by rfl,?_⟩) hHeld ?_ ?_;rotate_left
              ·rintro w' ⟨s0,s1,s2,s3,s4,s5,s6,s7⟩;go_simp
               with_reducible rfl
              rotate_left
              ·simp only [Act.put,QJ,QK,QL,i64_w,i32_w];rfl
              refine pure_ (i:=4) (N:=some 35) (v:=?_) (a':=?_) #[true,true,true,true,true,false,true,true,true,false,false,false,false,true,false,true,false,false,true,true,true,false,false,false,false,false,false,false] rfl rfl (any_of HT_.out (by kernel_rfl)) (fun _ _ _ h=>h) (Or.inl ⟨by rfl,?_⟩) ?_ ?_;rotate_left
              ·intro w';go_simp
               with_reducible rfl
              rotate_left
              ·simp only [Act.put,QJ,QK,QL,i64_w,i32_w];rfl
              refine take_ (i:=5) (N:=some 36) (v:=?_) (a':=?_) #[true,true,true,true,true,true,true,true,true,false,false,false,false,true,false,true,false,false,true,true,true,false,false,false,false,false,false,false] rfl rfl (take_ofW HT_.out HW_.out (by kernel_rfl)) (fun _ _ _ h=>h) (Or.inl ⟨by rfl,?_⟩) hHeld ?_ ?_;rotate_left
              ·rintro w' ⟨s0,s1,s2,s3,s4,s5,s6,s7⟩;go_simp
               with_reducible rfl
              rotate_left
              ·simp only [Act.put,QJ,QK,QL,i64_w,i32_w];rfl
              refine pure_ (i:=9) (N:=some 40) (v:=?_) (a':=?_) #[true,true,true,true,true,true,true,true,true,true,false,false,false,true,false,true,false,false,true,true,true,false,false,false,false,false,false,false] rfl rfl (any_of HT_.out (by kernel_rfl)) (fun _ _ _ h=>h) (Or.inl ⟨by rfl,?_⟩) ?_ ?_;rotate_left
              ·intro w';go_simp
               with_reducible rfl
              rotate_left
              ·simp only [Act.put,QJ,QK,QL,i64_w,i32_w];rfl
              refine take_ (i:=10) (N:=some 41) (v:=?_) (a':=?_) #[true,true,true,true,true,true,true,true,true,true,true,false,false,true,false,true,false,false,true,true,true,false,false,false,false,false,false,false] rfl rfl (take_ofW HT_.out HW_.out (by kernel_rfl)) (fun _ _ _ h=>h) (Or.inl ⟨by rfl,?_⟩) hHeld ?_ ?_;rotate_left
              ·rintro w' ⟨s0,s1,s2,s3,s4,s5,s6,s7⟩;go_simp
               with_reducible rfl
              rotate_left
              ·simp only [Act.put,QJ,QK,QL,i64_w,i32_w];rfl
              refine pure_ (i:=11) (N:=some 42) (v:=?_) (a':=?_) #[true,true,true,true,true,true,true,true,true,true,true,true,false,true,false,true,false,false,true,true,true,false,false,false,false,false,false,false] rfl rfl (any_of HT_.out (by kernel_rfl)) (fun _ _ _ h=>h) (Or.inl ⟨by rfl,?_⟩) ?_ ?_;rotate_left
              ·intro w';go_simp
               with_reducible rfl
              rotate_left
              ·simp only [Act.put,QJ,QK,QL,i64_w,i32_w];rfl
              refine pure_ (i:=12) (N:=some 43) (v:=?_) (a':=?_) #[true,true,true,true,true,true,true,true,true,true,true,true,true,true,false,true,false,false,true,true,true,false,false,false,false,false,false,false] rfl rfl (any_of HT_.out (by kernel_rfl)) (fun _ _ _ h=>h) (Or.inl ⟨by rfl,?_⟩) ?_ ?_;rotate_left
              ·intro w';go_simp
               with_reducible rfl
              rotate_left
              ·simp only [Act.put,QJ,QK,QL,i64_w,i32_w];rfl
              refine take_ (i:=14) (N:=some 45) (v:=?_) (a':=?_) #[true,true,true,true,true,true,true,true,true,true,true,true,true,true,true,true,false,false,true,true,true,false,false,false,false,false,false,false] rfl rfl (take_ofW HT_.out HW_.out (by kernel_rfl)) (fun _ _ _ h=>h) (Or.inl ⟨by rfl,?_⟩) hHeld ?_ ?_;rotate_left
              ·rintro w' ⟨s0,s1,s2,s3,s4,s5,s6,s7⟩;go_simp
               with_reducible rfl
              rotate_left
              ·simp only [Act.put,QJ,QK,QL,i64_w,i32_w];rfl
              refine pure_ (i:=16) (N:=some 47) (v:=?_) (a':=?_) #[true,true,true,true,true,true,true,true,true,true,true,true,true,true,true,true,true,false,true,true,true,false,false,false,false,false,false,false] rfl rfl (any_of HT_.out (by kernel_rfl)) (fun _ _ _ h=>h) (Or.inl ⟨by rfl,?_⟩) ?_ ?_;rotate_left
              ·intro w';go_simp
               with_reducible rfl
              rotate_left
              ·simp only [Act.put,QJ,QK,QL,i64_w,i32_w];rfl
              refine take_ (i:=17) (N:=some 48) (v:=?_) (a':=?_) #[true,true,true,true,true,true,true,true,true,true,true,true,true,true,true,true,true,true,true,true,true,false,false,false,false,false,false,false] rfl rfl (take_ofW HT_.out HW_.out (by kernel_rfl)) (fun _ _ _ h=>h) (Or.inl ⟨by rfl,?_⟩) hHeld ?_ ?_;rotate_left
              ·rintro w' ⟨s0,s1,s2,s3,s4,s5,s6,s7⟩;go_simp
               with_reducible rfl
              rotate_left
              ·simp only [Act.put,QJ,QK,QL,i64_w,i32_w];rfl
              refine pure_ (i:=21) (N:=some 52) (v:=?_) (a':=?_) #[true,true,true,true,true,true,true,true,true,true,true,true,true,true,true,true,true,true,true,true,true,true,false,false,false,false,false,false] rfl rfl (any_of HT_.out (by kernel_rfl)) (fun _ _ _ h=>h) (Or.inl ⟨by rfl,?_⟩) ?_ ?_;rotate_left
              ·intro w';go_simp
               with_reducible rfl
              rotate_left
              ·simp only [Act.put,QJ,QK,QL,i64_w,i32_w];rfl
              refine take_ (i:=22) (N:=some 53) (v:=?_) (a':=?_) #[true,true,true,true,true,true,true,true,true,true,true,true,true,true,true,true,true,true,true,true,true,true,true,false,false,false,false,false] rfl rfl (take_ofW HT_.out HW_.out (by kernel_rfl)) (fun _ _ _ h=>h) (Or.inl ⟨by rfl,?_⟩) hHeld ?_ ?_;rotate_left
              ·rintro w' ⟨s0,s1,s2,s3,s4,s5,s6,s7⟩;go_simp
               with_reducible rfl
              rotate_left
              ·simp only [Act.put,QJ,QK,QL,i64_w,i32_w];rfl
              refine pure_ (i:=23) (N:=some 54) (v:=?_) (a':=?_) #[true,true,true,true,true,true,true,true,true,true,true,true,true,true,true,true,true,true,true,true,true,true,true,true,false,false,false,false] rfl rfl (any_of HT_.out (by kernel_rfl)) (fun _ _ _ h=>h) (Or.inl ⟨by rfl,?_⟩) ?_ ?_;rotate_left
              ·intro w';go_simp
               with_reducible rfl
              rotate_left
              ·simp only [Act.put,QJ,QK,QL,i64_w,i32_w];rfl
              refine pure_ (i:=24) (N:=some 55) (v:=?_) (a':=?_) #[true,true,true,true,true,true,true,true,true,true,true,true,true,true,true,true,true,true,true,true,true,true,true,true,true,false,false,false] rfl rfl (any_of HT_.out (by kernel_rfl)) (fun _ _ _ h=>h) (Or.inl ⟨by rfl,?_⟩) ?_ ?_;rotate_left
              ·intro w';go_simp
               with_reducible rfl
              rotate_left
              ·simp only [Act.put,QJ,QK,QL,i64_w,i32_w];rfl
              refine one_ (i:=25) (N:=some 56) #[true,true,true,true,true,true,true,true,true,true,true,true,true,true,true,true,true,true,true,true,true,true,true,true,true,true,false,false] rfl rfl (one_of HT_.out (by kernel_rfl)) (by decide) (fun K hK=>?_);refine value_ (w1:=?_) (v:=?_) (by rfl) rfl ?_ ?_;rotate_left 2
              ·go_simp;constructor
               ·rfl
               ·rfl
              refine hK.out _ _ ⟨(Qb (Qe BK171.o _) 0).trans rfl,(Qb (Qe BK171.o _) 1).trans rfl,(Qb (Qe BK171.o _) 2).trans rfl,(Qb (Qe BK171.o _) 3).trans rfl,(World.cell?_alloc_lt _ _ _ (World.block_lt_of_cell? _ _ (((HB.o.cell (World.block_lt_of_cell? w _ hw175_0)).trans hw175_0)))).trans (((HB.o.cell (World.block_lt_of_cell? w _ hw175_0)).trans hw175_0)),(World.cell?_alloc_lt _ _ _ (World.block_lt_of_cell? _ _ (((HB.o.cell (World.block_lt_of_cell? w _ hw176_0)).trans hw176_0)))).trans (((HB.o.cell (World.block_lt_of_cell? w _ hw176_0)).trans hw176_0)),(World.cell?_alloc_lt _ _ _ (World.block_lt_of_cell? _ _ (((HB.o.cell (World.block_lt_of_cell? w _ hw177_0)).trans hw177_0)))).trans (((HB.o.cell (World.block_lt_of_cell? w _ hw177_0)).trans hw177_0)),(World.cell?_alloc_lt _ _ _ (World.block_lt_of_cell? _ _ (((HB.o.cell (World.block_lt_of_cell? w _ hw178_0)).trans hw178_0)))).trans (((HB.o.cell (World.block_lt_of_cell? w _ hw178_0)).trans hw178_0))⟩ (fun hHeld=>?_);clear hK K;refine norm_ (a':=?_) ?_ ?_;rotate_left
              ·(show Act.put _ (some 56) _ = _);simp only [Act.put,QJ,QK,QL,i64_w,i32_w];rfl
              refine one_ (i:=26) (N:=some 57) #[true,true,true,true,true,true,true,true,true,true,true,true,true,true,true,true,true,true,true,true,true,true,true,true,true,true,true,false] rfl rfl (one_of HT_.out (by kernel_rfl)) (by decide) (fun K hK=>?_);refine Kd.R_append_step (Kd.int .i64) (w0:=w) w.heap.size (by rfl) (.tmp 31) (.tmp 56) 24 3 (.int .i64 0) 8 rfl Try.underlying24 info3 rfl (by decide) (by omega) u8 x8_2 (wrap64 ((wrap64 ((wrap64 (rd (rd_L1 l0_0 a1) (ji20))) * 256)) + (wrap64 (rd (rd_L1 l0_0 a1) (ji23))))) [.int .i64 (wrap64 ((wrap64 ((wrap64 (rd (rd_L1 l0_0 a1) (ji20))) * 256)) + (wrap64 (rd (rd_L1 l0_0 a1) (ji23)))))] (fun _=>True) (fun _=>False) rfl rfl ?aP (fun _ hk=>hk.elim) ?aF ?aO ?aB ?aS ?aL ?_;(case aP=>exact rfl);(case aB=>exact (by repeat (first|(with_reducible first|exact HB.o|apply Qk|apply Qi|apply Qj|refine Ql ?_ GE171.o)|exact HB.o)));(case aF=>exact (fun _ _=>trivial));(case aO=>exact (by (with_reducible repeat (first|apply QC|apply QE|apply Kd.R_drew));exact HO_8.o));(case aS=>exact (Qn (by repeat (first|(with_reducible first|exact HB.o|apply Qk|apply Qi|apply Qj|refine Ql ?_ GE171.o)|exact HB.o))));(case aL=>have:=LMc26.out;omega);intro v180 w28 ho hb hg hat;rw [← Ny179.out] at ho;have n0_:=Qa (blk_grown (g:=gb171) (o:=.cells #[.slice (some ad175) l0_0.length c0_0,.slice A0_1 l0_1.length c0_1,.slice A0_2 l0_2.length c0_2,.slice A0_3 l0_3.length c0_3] 30 (0,0)) (by (with_reducible repeat first|apply Qf|apply blk_drew|apply Qe);exact BK171.o) hg (Kd.R_ne HO_8.o BK171.o (by decide)));have n1_:=Qa (hb);have n2_:=Qa (ho);clear BK171;clear HB;clear HO_8;have BK171:=n0_;have HB:=n1_;have HO181:=n2_;clear n0_ n1_ n2_;clear ho hb hg hat;refine hK.out _ _ ⟨(Qb BK171.o 0).trans rfl,(Qb BK171.o 1).trans rfl,(Qb BK171.o 2).trans rfl,(Qb BK171.o 3).trans rfl,((HB.o.cell (World.block_lt_of_cell? w _ hw175_0)).trans hw175_0),((HB.o.cell (World.block_lt_of_cell? w _ hw176_0)).trans hw176_0),((HB.o.cell (World.block_lt_of_cell? w _ hw177_0)).trans hw177_0),((HB.o.cell (World.block_lt_of_cell? w _ hw178_0)).trans hw178_0)⟩ (fun hHeld=>?_);clear hK K;refine norm_ (a':=?_) ?_ ?_;rotate_left
              ·(show Act.put _ (some 57) _ = _);simp only [Act.put,QJ,QK,QL,i64_w,i32_w];rfl
              refine pure_ (i:=27) (N:=some 8) (v:=?_) (a':=?_) #[true,true,true,true,true,true,true,true,true,true,true,true,true,true,true,true,true,true,true,true,true,true,true,true,true,true,true,true] rfl rfl (any_of HT_.out (by kernel_rfl)) (fun _ _ _ h=>h) (Or.inl ⟨by rfl,?_⟩) ?_ ?_;rotate_left
              ·intro w';go_simp
               with_reducible rfl
              rotate_left
              ·simp only [Act.put,QJ,QK,QL,i64_w,i32_w];rfl
              refine done_ (done_of HT_.out (by kernel_rfl)) ?_;(try go_wp2);go_roundg k2
              case measure=>have:=HJ3.o;have:=HK2.o;omega
              case rel=>exact ⟨(y179),(wrap64 (x9_2 + 1)),(by first|rfl|(simp;done)|(simp [*];done)),H',⟨by have:=HJ3.o;have:=HK2.o;omega⟩,⟨by (with_reducible repeat (first|apply QC|apply QE|apply Kd.R_drew));exact HO181.o⟩,⟨by (with_reducible repeat first|apply Qf|apply blk_drew|apply Qe);exact BK171.o⟩,⟨by repeat (first|(with_reducible first|exact HB.o|apply Qk|apply Qi|apply Qj|refine Ql ?_ GE171.o)|exact HB.o)⟩⟩
             ·rw [if_neg c26] at H;exact absurd H (by simp)
            ·rw [if_neg c25] at H;exact absurd H (by simp)
           ·rw [if_neg c24] at H;exact absurd H (by simp)
          ·rw [if_neg c22] at H;exact absurd H (by simp)
         ·rw [if_neg c21] at H;exact absurd H (by simp)
        ·rw [if_neg c19] at H;exact absurd H (by simp)
       ·rw [if_neg c18] at H;exact absurd H (by simp)
      ·rw [if_neg c17] at H;have c17b0 : decide (x9_2 < 32) = false:=QI c17;clear c17
       by_cases c29 : 0 ≤ a1
       ·rw [if_pos c29] at H;have c29b0 : decide (0 ≤ a1) = true:=QH c29;clear c29
        by_cases c30 : a1 < (l0_0.length : Int)
        ·rw [if_pos c30] at H;have c30b0 : decide (a1 < (l0_0.length : Int)) = true:=QH c30;clear c30
         by_cases c31 : 65 ≤ ((rd_L1 l0_0 a1).length : Int)
         ·rw [if_pos c31] at H;have c31b0:=eq_true c31;have c31b1 : decide (65 ≤ ((rd_L1 l0_0 a1).length : Int)) = true:=QH c31;clear c31;have H':=Qa H;clear H;have hcz32_0 : wr.cell? ⟨gb171,0,none⟩ = some (.slice A0_0 l0_0.length c0_0):=(Qb BK171.o 0).trans rfl;have hcz32_1 : wr.cell? ⟨gb171,1,none⟩ = some (.slice A0_1 l0_1.length c0_1):=(Qb BK171.o 1).trans rfl;have hcz32_2 : wr.cell? ⟨gb171,2,none⟩ = some (.slice A0_2 l0_2.length c0_2):=(Qb BK171.o 2).trans rfl;have hcz32_3 : wr.cell? ⟨gb171,3,none⟩ = some (.slice A0_3 l0_3.length c0_3):=(Qb BK171.o 3).trans rfl;have hfz32_0:=Qc BK171.o 0;have hfz32_1:=Qc BK171.o 1;have hfz32_2:=Qc BK171.o 2;have hfz32_3:=Qc BK171.o 3;have p182 : 0 ≤ (a1 : Int):=QG (by assumption);have q182 : a1 < (l0_0.length : Int):=QG (by assumption);obtain ⟨ad182,A182_0,c182_0,e182,hx182_0,hl182_0,hi182_0⟩:=at_L1 HR0_0.o a1 p182 q182;cases e182;(try replace hx182_0:=(HB.o.cell (World.block_lt_of_cell? w _ hx182_0)).trans hx182_0);have HR182_0:=Qa hi182_0;have HC182_0:=Qa hl182_0;clear hi182_0 hl182_0;replace p182:=eq_true p182;replace q182:=eq_true q182;obtain ⟨i033,hi033,_,hsz33,_⟩:=info_parts info5;obtain ⟨A33,hcut33,hA33,hC33⟩:=print_drop_of (P:=Try.prog) (Value.int .u8) 0 23 5 .i64 Try.underlying23 hi033 hsz33 A182_0 c182_0 (rd_L1 l0_0 a1) 65 (by omega) (QG (by assumption)) HC182_0.o;have HR183:=Qa (Kd.C_of_reads (h1:=fun _=>rfl) (hA33 _ (Kd.reads_of_C HR182_0.o)));have HC183:=Qa hC33;clear hA33 hC33 hi033 hsz33;go_wp2;go_loopg [65] k2 (fun kq v65 w'=>∃ (x65_3 : Int),v65 = .int .i64 x65_3∧Aside0 (spec_l6Numbers.l1 kq x8_2 ((rd_L1 l0_0 a1).drop 65) (((rd_L1 l0_0 a1).drop 65).length : Int) x65_3 = some (r1,r2))∧Aside0 (kq ≤ k2)∧Aside0 (Kd.R (Kd.int .i64) 3 w' w.heap.size (fun _=>True) u8 x8_2)∧Aside0 (w'.heap[gb171]? = some (.cells #[(.slice (some ad182) l0_0.length c0_0),(.slice A0_1 l0_1.length c0_1),(.slice A0_2 l0_2.length c0_2),(.slice A0_3 l0_3.length c0_3)] 30 (0,0)))∧Aside0 (Below w.heap.size w w'))
          case atStart=>exact ⟨(0),(by first|rfl|(simp;done)|(simp [*];done)),H',⟨QS _⟩,⟨by (with_reducible repeat (first|apply QC|apply QE|apply Kd.R_drew));exact HO_8.o⟩,⟨by (with_reducible repeat first|apply Qf|apply blk_drew|apply Qe);exact BK171.o⟩,⟨by repeat (first|(with_reducible first|exact HB.o|apply Qk|apply Qi|apply Qj|refine Ql ?_ GE171.o)|exact HB.o)⟩⟩
          case round =>
           clear H';(try clear c1;try clear p1;try clear q1;try clear hx1;try clear qi1;try clear c2;try clear p2;try clear c3;try clear c5;try clear p6;try clear c7;try clear c8;try clear c8b0;try clear c9;try clear c9b0;try clear c10;try clear c10b0;try clear c10b1;try clear c16;try clear c17;try clear c17b0;try clear p17;try clear q17;try clear hx17;try clear qi17;try clear c18;try clear c18b0;try clear p18;try clear q18;try clear hx18;try clear c19;try clear c19b0;try clear c21;try clear c21b0;try clear c22;try clear c22b0;try clear c24;try clear c24b0;try clear c25;try clear c25b0;try clear c26;try clear c29;try clear c29b0;try clear c30;try clear c30b0;try clear c31;try clear c31b0;try clear c31b1;try clear hcz11_0;try clear hcz11_1;try clear hcz11_2;try clear hcz11_3;try clear hcz13_0;try clear hcz13_1;try clear hcz13_2;try clear hcz13_3;try clear hcz14_0;try clear hcz14_1;try clear hcz14_2;try clear hcz14_3;try clear hcz32_0;try clear hcz32_1;try clear hcz32_2;try clear hcz32_3;try clear hfz11_0;try clear hfz11_1;try clear hfz11_2;try clear hfz11_3;try clear hfz13_0;try clear hfz13_1;try clear hfz13_2;try clear hfz13_3;try clear hfz14_0;try clear hfz14_1;try clear hfz14_2;try clear hfz14_3;try clear hfz32_0;try clear hfz32_1;try clear hfz32_2;try clear hfz32_3;try clear hx173_0;try clear hx174_0;try clear hx175_0;try clear hx176_0;try clear hx177_0;try clear hx178_0;try clear hx182_0;try clear p1;try clear p173;try clear p174;try clear p175;try clear p176;try clear p177;try clear p178;try clear p182;try clear p2;try clear q1;try clear q173;try clear q174;try clear q175;try clear q176;try clear q177;try clear q178;try clear q182);obtain ⟨x65_3,rfl,HA,HK3,HO_8,BK171,HB⟩:=hrel
           cases gk with
           | zero=>exact absurd HA.out (by simp [spec_l6Numbers.l1])
           | succ k3 =>
            have H:=HA.out;clear HA;simp only [spec_l6Numbers.l1] at H
            by_cases c34 : x65_3 < (((rd_L1 l0_0 a1).drop 65).length : Int)
            ·rw [if_pos c34] at H;have c34b0 : decide (x65_3 < (((rd_L1 l0_0 a1).drop 65).length : Int)) = true:=QH c34;(have c34b0x : decide (x65_3 < (((rd_L1 l0_0 a1).length - 65 : Nat) : Int)) = true:=by rw [← List.length_drop];exact c34b0);clear c34
             by_cases c35 : 0 ≤ x65_3
             ·rw [if_pos c35] at H;have c35b0 : decide (0 ≤ x65_3) = true:=QH c35;clear c35
              by_cases c36 : x65_3 < (((rd_L1 l0_0 a1).drop 65).length : Int)
              ·rw [if_pos c36] at H;have c36b0 : decide (x65_3 < (((rd_L1 l0_0 a1).drop 65).length : Int)) = true:=QH c36;(have c36b0x : decide (x65_3 < (((rd_L1 l0_0 a1).length - 65 : Nat) : Int)) = true:=by rw [← List.length_drop];exact c36b0);clear c36
               by_cases c37 : (rd ((rd_L1 l0_0 a1).drop 65) x65_3) = 0
               ·rw [if_pos c37] at H;have c37b0 : ((rd ((rd_L1 l0_0 a1).drop 65) x65_3) == 0) = true:=beq_iff_eq.mpr c37;have c37b1 : ((rd ((rd_L1 l0_0 a1).drop 65) x65_3) != 0) = false:=bne_eq_false_iff_eq.mpr c37;clear c37;have H':=Qa H;clear H;have p184 : 0 ≤ (x65_3 : Int):=QG (by assumption);have q184 : x65_3 < (((rd_L1 l0_0 a1).drop 65).length : Int):=QG (by assumption);have q184x : (x65_3 < (((rd_L1 l0_0 a1).length - 65 : Nat) : Int)) = True:=eq_true (by rw [← List.length_drop];exact q184);obtain ⟨ad184,e184,hx184_0⟩:=Kd.at_int HR183.o x65_3 p184 q184;cases e184;(try replace hx184_0:=(HB.o.cell (World.block_lt_of_cell? w _ hx184_0)).trans hx184_0);replace p184:=eq_true p184;replace q184:=eq_true q184;go_wp2;go_roundg k3
                case measure=>have:=HJ3.o;have:=HK2.o;have:=HK3.o;omega
                case rel=>exact ⟨(wrap64 (x65_3 + 1)),(by first|rfl|(simp;done)|(simp [*];done)),H',⟨by have:=HJ3.o;have:=HK2.o;have:=HK3.o;omega⟩,⟨by (with_reducible repeat (first|apply QC|apply QE|apply Kd.R_drew));exact HO_8.o⟩,⟨by (with_reducible repeat first|apply Qf|apply blk_drew|apply Qe);exact BK171.o⟩,⟨by repeat (first|(with_reducible first|exact HB.o|apply Qk|apply Qi|apply Qj|refine Ql ?_ GE171.o)|exact HB.o)⟩⟩
               ·rw [if_neg c37] at H;have c37b0 : ((rd ((rd_L1 l0_0 a1).drop 65) x65_3) == 0) = false:=beq_eq_false_iff_ne.mpr c37;have c37b1 : ((rd ((rd_L1 l0_0 a1).drop 65) x65_3) != 0) = true:=bne_iff_ne.mpr c37;simp only [Option.some.injEq,Prod.mk.injEq] at H;obtain ⟨rfl,rfl⟩:=H;have p184 : 0 ≤ (x65_3 : Int):=QG (by assumption);have q184 : x65_3 < (((rd_L1 l0_0 a1).drop 65).length : Int):=QG (by assumption);have q184x : (x65_3 < (((rd_L1 l0_0 a1).length - 65 : Nat) : Int)) = True:=eq_true (by rw [← List.length_drop];exact q184);obtain ⟨ad184,e184,hx184_0⟩:=Kd.at_int HR183.o x65_3 p184 q184;cases e184;(try replace hx184_0:=(HB.o.cell (World.block_lt_of_cell? w _ hx184_0)).trans hx184_0);replace p184:=eq_true p184;replace q184:=eq_true q184;go_wp2;go_ret2;exact ⟨_,by first|rfl|(simp [*,errW_none,errW_some] <;> rfl),by first|exact Kd.R_nil _ _ _ _ _|exact Kd.N_nil _ _ _ _ _|exact Kd.V_nil _ _ _ _ _|exact Kd.Q_nil _ _ _ _ _|exact Kd.S_nil _ _ _ _ _,by repeat (first|(with_reducible first|exact HB.o|apply Qk|apply Qi|apply Qj|refine Ql ?_ GE171.o)|exact HB.o)⟩
              ·rw [if_neg c36] at H;exact absurd H (by simp)
             ·rw [if_neg c35] at H;exact absurd H (by simp)
            ·rw [if_neg c34] at H;have c34b0 : decide (x65_3 < (((rd_L1 l0_0 a1).drop 65).length : Int)) = false:=QI c34;(have c34b0x : decide (x65_3 < (((rd_L1 l0_0 a1).length - 65 : Nat) : Int)) = false:=by rw [← List.length_drop];exact c34b0);clear c34;simp only [Option.some.injEq,Prod.mk.injEq] at H;obtain ⟨rfl,rfl⟩:=H;go_wp2;go_ret2;exact ⟨_,by first|rfl|(simp [*,errW_none,errW_some] <;> rfl),by (with_reducible repeat (first|apply QC|apply QE|apply Kd.R_drew));exact HO_8.o,by repeat (first|(with_reducible first|exact HB.o|apply Qk|apply Qi|apply Qj|refine Ql ?_ GE171.o)|exact HB.o)⟩
         ·rw [if_neg c31] at H;exact absurd H (by simp)
        ·rw [if_neg c30] at H;exact absurd H (by simp)
       ·rw [if_neg c29] at H;exact absurd H (by simp)

end Go.Proofs.Ytcdlookokffkeaa.PFnExactKeysIn
