-- Written by a program of this session over the print of the kit (wip/t/patch_print.py).
import Derived.Test.YtfjboeeogjepeaaPFnExactCommitGroupx0
import Derived.Test.YtfjboeeogjepeaaPFnExactCommitGroupx1
namespace Go.Proofs.Ytfjboeeogjepeaa.PFnExactCommitGroup
open Go.RowKit Go.Proofs.YtfjboeeogjepeaaW.PrintWords Go.Proofs.YtfjboeeogjepeaaW.PrintLast Go.Proofs.YtfjboeeogjepeaaW.PrintMore
attribute [local go_sem] max2_int min2_int max_two min_two max_three min_three max_four min_four   -- for this text's walks alone
set_option linter.unusedVariables false
set_option linter.unusedSimpArgs false

/-! ### laws_eqWriteS: function 15 -/
def laws_eqWriteS.l0 : Nat → List (S59) → List (S59) → Int → Option (Bool)
 | 0,_,_,_=>none
 | k + 1,x0,x1,x5=>if x5 < (x0.length : Int) then (if 0 ≤ x5 then (if x5 < (x1.length : Int) then ((laws_eqWrite.f k ((rd_T59 x0 x5).f0) ((rd_T59 x0 x5).f1) ((rd_T59 x1 x5).f0) ((rd_T59 x1 x5).f1)).bind fun t132=>(if t132 = true then (laws_eqWriteS.l0 k x0 x1 (wrap64 (x5 + 1))) else (some false))) else (none)) else (none)) else (some true)
def laws_eqWriteS.f (k : Nat) (l0 : List (S59)) (l1 : List (S59)) : Option (Bool):=if (l0.length : Int) = (l1.length : Int) then (laws_eqWriteS.l0 k l0 l1 0) else (some false)
theorem laws_eqWriteS.mono_l : ∀ k,(∀ y0 y1 y2,LeO (laws_eqWriteS.l0 k y0 y1 y2) (laws_eqWriteS.l0 (k + 1) y0 y1 y2))
 | 0=>fun _ _ _ r h=>by simp [laws_eqWriteS.l0] at h
 | k + 1=>by
  have ih0:=laws_eqWriteS.mono_l k
  ·intro y0 y1 y2;unfold laws_eqWriteS.l0
   repeat' first|(with_reducible first|exact ih0 _ _ _|exact laws_eqWrite.mono _ _ _ _ _|exact LeO.refl _|exact LeO.none _|refine LeO.ite ?_ ?_|refine LeO.bind ?_ (fun _=>?_))|exact ih0 _ _ _|exact laws_eqWrite.mono _ _ _ _ _|exact LeO.none _|refine LeO.ite ?_ ?_|refine LeO.bind ?_ (fun _=>?_)
theorem laws_eqWriteS.mono : ∀ a0 a1 k,LeO (laws_eqWriteS.f k a0 a1) (laws_eqWriteS.f (k + 1) a0 a1):=by
 intro a0 a1 k;have ih0:=laws_eqWriteS.mono_l k;unfold laws_eqWriteS.f
 repeat' first|(with_reducible first|exact ih0 _ _ _|exact laws_eqWrite.mono _ _ _ _ _|exact LeO.refl _|exact LeO.none _|refine LeO.ite ?_ ?_|refine LeO.bind ?_ (fun _=>?_))|exact ih0 _ _ _|exact laws_eqWrite.mono _ _ _ _ _|exact LeO.none _|refine LeO.ite ?_ ?_|refine LeO.bind ?_ (fun _=>?_)
def laws_eqWriteS.T6 : Bool × List (List Nat × List Nat):=(true,[([],[]),([],[]),([0,1],[0,1]),([2],[2]),([],[]),([],[]),([4,5],[4,5]),([6],[6]),([3,7],[3,7]),([8],[8])])
def laws_eqWriteS.B6 : List Nat:=[0,0,3,7,0,0,48,112,255,511]
theorem laws_eqWriteS.tab6 : rtab .any (opsOf Try.f15 6) = laws_eqWriteS.T6:=by kernel_rfl
theorem laws_eqWriteS.bits6 : waitsOk laws_eqWriteS.T6.2 laws_eqWriteS.B6 = true:=by kernel_rfl
set_option maxHeartbeats 8000000 in
set_option maxRecDepth 100000 in
theorem laws_eqWriteS.calls (k : Nat) (A0 : Option Addr) (c0 : Nat) (l0 : List (S59)) (A1 : Option Addr) (c1 : Nat) (l1 : List (S59)) (r : Bool) (w : World) (hr0 : Kd.C k59 w A0 l0.length l0) (hc0 : l0.length ≤ c0) (hr1 : Kd.C k59 w A1 l1.length l1) (hc1 : l1.length ≤ c1) (h : laws_eqWriteS.f k l0 l1 = some r) :
  Calls Try.prog 15 #[.slice A0 l0.length c0,.slice A1 l1.length c1] w fun e w'=>e = .returned (.bool r)∧Below w.heap.size w w':=by
 have hu59:=Try.underlying59;have HR0:=Qa hr0;have HC0:=Qa hc0;clear hr0 hc0;have HR1:=Qa hr1;have HC1:=Qa hc1;clear hr1 hc1;have HB:=Qa (Below.refl w.heap.size w);have H : (if (l0.length : Int) = (l1.length : Int) then (laws_eqWriteS.l0 k l0 l1 0) else (some false)) = some r:=h;clear h
 by_cases c3 : (l0.length : Int) = (l1.length : Int)
 ·rw [if_pos c3] at H;have c3b0 : ((l0.length : Int) == (l1.length : Int)) = true:=beq_iff_eq.mpr c3;have c3b1 : ((l0.length : Int) != (l1.length : Int)) = false:=bne_eq_false_iff_eq.mpr c3;(have c3b2 : (l0.length == l1.length) = true:=by first|simpa using c3|(simp at c3 ⊢;omega));clear c3;have H':=Qa H;clear H;go_enter Try.func15,Try.ntmps15;go_wp2;go_loopg [5] k (fun kq v5 w'=>∃ (x5_1 : Int),v5 = .int .i64 x5_1∧Aside0 (laws_eqWriteS.l0 kq l0 l1 x5_1 = some r)∧Aside0 (kq ≤ k)∧Aside0 (Below w.heap.size w w'))
  case atStart=>exact ⟨(0),(sf1_),H',⟨QP _⟩,⟨bg0_⟩⟩
  case round =>
   clear H';(try clear c1;try clear p2;try clear c3;try clear c3b0;try clear c3b1;try clear c3b2);obtain ⟨x5_1,rfl,HA,HK1,HB⟩:=hrel
   cases gk with
   | zero=>exact absurd HA.out (by simp [laws_eqWriteS.l0])
   | succ k1 =>
    have H:=HA.out;clear HA;simp only [laws_eqWriteS.l0] at H
    by_cases c4 : x5_1 < (l0.length : Int)
    ·rw [if_pos c4] at H;have c4b0 : decide (x5_1 < (l0.length : Int)) = true:=QF c4;clear c4
     by_cases c5 : 0 ≤ x5_1
     ·rw [if_pos c5] at H;have c5b0 : decide (0 ≤ x5_1) = true:=QF c5;clear c5
      by_cases c6 : x5_1 < (l1.length : Int)
      ·rw [if_pos c6] at H;have c6b0 : decide (x5_1 < (l1.length : Int)) = true:=QF c6;clear c6;replace H:=QD H;obtain ⟨t132,A70,H⟩:=H;replace H : (if t132 = true then (laws_eqWriteS.l0 k1 l0 l1 (wrap64 (x5_1 + 1))) else (some false)) = some r:=H;have A7:=Qa A70;clear A70
       by_cases c8 : t132 = true
       ·subst c8;(have H1 : (laws_eqWriteS.l0 k1 l0 l1 (wrap64 (x5_1 + 1))) = some r:=by rw [if_pos rfl] at H;exact H);clear H;have H:=H1;clear H1;have H':=Qa H;clear H;(try go_wp2);have n0_:=Qa (Qj HB.o);clear HB;have HB:=n0_;clear n0_;have p130 : 0 ≤ (x5_1 : Int):=QE (by assumption);have q130 : x5_1 < (l0.length : Int):=QE (by assumption);obtain ⟨ad130,A130_1,c130_1,e130,hx130_0,hx130_1,hl130_1,hi130_1⟩:=at_T59 HR0.o x5_1 p130 q130;have hw130_1:=hx130_1;have hw130_0:=hx130_0;cases e130;(try replace hx130_0:=(HB.o.cell (World.block_lt_of_cell? w _ hx130_0)).trans hx130_0);(try replace hx130_1:=(HB.o.cell (World.block_lt_of_cell? w _ hx130_1)).trans hx130_1);have HR130_1:=Qa hi130_1;have HC130_1:=Qa hl130_1;clear hi130_1 hl130_1;replace p130:=eq_true p130;replace q130:=eq_true q130;have p131 : 0 ≤ (x5_1 : Int):=QE (by assumption);have q131 : x5_1 < (l1.length : Int):=QE (by assumption);obtain ⟨ad131,A131_1,c131_1,e131,hx131_0,hx131_1,hl131_1,hi131_1⟩:=at_T59 HR1.o x5_1 p131 q131;have hw131_1:=hx131_1;have hw131_0:=hx131_0;cases e131;(try replace hx131_0:=(HB.o.cell (World.block_lt_of_cell? w _ hx131_0)).trans hx131_0);(try replace hx131_1:=(HB.o.cell (World.block_lt_of_cell? w _ hx131_1)).trans hx131_1);have HR131_1:=Qa hi131_1;have HC131_1:=Qa hl131_1;clear hi131_1 hl131_1;replace p131:=eq_true p131;replace q131:=eq_true q131;refine start_ (n:=10) (S:=fun w'=>w'.cell? (ad130.add ((x5_1).toNat * 2)) = some (.int .i64 ((rd_T59 l0 x5_1).f0))∧w'.cell? ⟨(ad130.add ((x5_1).toNat * 2)).block,(ad130.add ((x5_1).toNat * 2)).off + 1,none⟩ = some (.slice A130_1 ((rd_T59 l0 x5_1).f1).length c130_1)∧w'.cell? (ad131.add ((x5_1).toNat * 2)) = some (.int .i64 ((rd_T59 l1 x5_1).f0))∧w'.cell? ⟨(ad131.add ((x5_1).toNat * 2)).block,(ad131.add ((x5_1).toNat * 2)).off + 1,none⟩ = some (.slice A131_1 ((rd_T59 l1 x5_1).f1).length c131_1)) (ds:=[]) m0_ (by kernel_rfl) rfl rfl ⟨((HB.o.cell (World.block_lt_of_cell? w _ hw130_0)).trans hw130_0),((HB.o.cell (World.block_lt_of_cell? w _ hw130_1)).trans hw130_1),((HB.o.cell (World.block_lt_of_cell? w _ hw131_0)).trans hw131_0),((HB.o.cell (World.block_lt_of_cell? w _ hw131_1)).trans hw131_1)⟩ (fun hHeld=>?_);refine with_tabW laws_eqWriteS.tab6 laws_eqWriteS.bits6 (fun HT_ HW_=>?_)
        generalize wr.drew = w9 at HB HR130_1 HR131_1 hx130_0 hx130_1 hx131_0 hx131_1 hHeld ⊢
        refine pp_ 0 17 m1_ rfl rfl HT_.out ?_;refine pp_ 1 18 m2_ rfl rfl HT_.out ?_;refine pp_ 2 19 m7_ rfl rfl HT_.out ?_;refine pp_ 4 21 m8_ rfl rfl HT_.out ?_;refine pp_ 5 22 m28_ rfl rfl HT_.out ?_;refine pp_ 6 23 m29_ rfl rfl HT_.out ?_;refine take_ (i:=3) (N:=some 20) (v:=?_) (a':=?_) m3_ rfl rfl (take_ofW HT_.out HW_.out (by kernel_rfl)) (fun _ _ _ h=>h) (Or.inl ⟨by rfl,?_⟩) hHeld ?_ ?_;rotate_left
        ·rintro w' ⟨s0,s1,s2,s3⟩;go_simp
         with_reducible rfl
        rotate_left
        ·simp only [Act.put,QH,QI,QJ,i64_w,i32_w];rfl
        refine take_ (i:=7) (N:=some 24) (v:=?_) (a':=?_) m4_ rfl rfl (take_ofW HT_.out HW_.out (by kernel_rfl)) (fun _ _ _ h=>h) (Or.inl ⟨by rfl,?_⟩) hHeld ?_ ?_;rotate_left
        ·rintro w' ⟨s0,s1,s2,s3⟩;go_simp
         with_reducible rfl
        rotate_left
        ·simp only [Act.put,QH,QI,QJ,i64_w,i32_w];rfl
        refine one_ (i:=8) (N:=some 25) m5_ rfl rfl (one_of HT_.out (by kernel_rfl)) (by decide) (fun K hK=>?_);refine goes_ Try.func45 (by kernel_rfl) rfl #[.agg #[.int .i64 ((rd_T59 l0 x5_1).f0),.slice A130_1 ((rd_T59 l0 x5_1).f1).length c130_1],.agg #[.int .i64 ((rd_T59 l1 x5_1).f0),.slice A131_1 ((rd_T59 l1 x5_1).f1).length c131_1]] (by rfl) rfl rfl (sf0_) ?_
        with_reducible refine (laws_eqWrite.calls k1 ((rd_T59 l0 x5_1).f0) _ _ ((rd_T59 l0 x5_1).f1) ((rd_T59 l1 x5_1).f0) _ _ ((rd_T59 l1 x5_1).f1) true _ ?side1 ?side2 ?side3 ?side4 A7.o).mono ?_
        (case side1=>exact cb_ HR130_1.o);(case side2=>exact HC130_1.o);(case side3=>exact cb_ HR131_1.o);(case side4=>exact HC131_1.o);rintro e w10 ⟨rfl,hb⟩;refine ⟨_,rfl,?_⟩;have n0_:=Qa (Qm (bg0_) hb);clear HB;have HB:=n0_;clear n0_;(try clear hb);(try clear hb2);(try clear hk);(try clear hi);refine hK.out _ _ ⟨((HB.o.cell (World.block_lt_of_cell? w _ hw130_0)).trans hw130_0),((HB.o.cell (World.block_lt_of_cell? w _ hw130_1)).trans hw130_1),((HB.o.cell (World.block_lt_of_cell? w _ hw131_0)).trans hw131_0),((HB.o.cell (World.block_lt_of_cell? w _ hw131_1)).trans hw131_1)⟩ (fun hHeld=>?_);clear hK K;refine norm_ (a':=?_) ?_ ?_;rotate_left
        ·(show Act.put _ (some 25) _ = _);simp only [Act.put,QH,QI,QJ,i64_w,i32_w];rfl
        refine pp_ 9 26 m6_ rfl rfl HT_.out ?_;refine done_ (done_of HT_.out (by kernel_rfl)) ?_;(try go_wp2);go_roundg k1
        case measure=>have:=HK1.o;omega
        case rel=>exact ⟨(wrap64 (x5_1 + 1)),(sf1_),H',⟨by have:=HK1.o;omega⟩,⟨bg0_⟩⟩
       ·replace c8:=QN c8;subst c8;(have H1 : (some false) = some r:=by rw [if_neg (show ¬ (false = true) by decide)] at H;exact H);clear H;have H:=H1;clear H1;obtain rfl:=QM H;(try go_wp2);have n0_:=Qa (Qj HB.o);clear HB;have HB:=n0_;clear n0_;have p130 : 0 ≤ (x5_1 : Int):=QE (by assumption);have q130 : x5_1 < (l0.length : Int):=QE (by assumption);obtain ⟨ad130,A130_1,c130_1,e130,hx130_0,hx130_1,hl130_1,hi130_1⟩:=at_T59 HR0.o x5_1 p130 q130;have hw130_1:=hx130_1;have hw130_0:=hx130_0;cases e130;(try replace hx130_0:=(HB.o.cell (World.block_lt_of_cell? w _ hx130_0)).trans hx130_0);(try replace hx130_1:=(HB.o.cell (World.block_lt_of_cell? w _ hx130_1)).trans hx130_1);have HR130_1:=Qa hi130_1;have HC130_1:=Qa hl130_1;clear hi130_1 hl130_1;replace p130:=eq_true p130;replace q130:=eq_true q130;have p131 : 0 ≤ (x5_1 : Int):=QE (by assumption);have q131 : x5_1 < (l1.length : Int):=QE (by assumption);obtain ⟨ad131,A131_1,c131_1,e131,hx131_0,hx131_1,hl131_1,hi131_1⟩:=at_T59 HR1.o x5_1 p131 q131;have hw131_1:=hx131_1;have hw131_0:=hx131_0;cases e131;(try replace hx131_0:=(HB.o.cell (World.block_lt_of_cell? w _ hx131_0)).trans hx131_0);(try replace hx131_1:=(HB.o.cell (World.block_lt_of_cell? w _ hx131_1)).trans hx131_1);have HR131_1:=Qa hi131_1;have HC131_1:=Qa hl131_1;clear hi131_1 hl131_1;replace p131:=eq_true p131;replace q131:=eq_true q131;refine start_ (n:=10) (S:=fun w'=>w'.cell? (ad130.add ((x5_1).toNat * 2)) = some (.int .i64 ((rd_T59 l0 x5_1).f0))∧w'.cell? ⟨(ad130.add ((x5_1).toNat * 2)).block,(ad130.add ((x5_1).toNat * 2)).off + 1,none⟩ = some (.slice A130_1 ((rd_T59 l0 x5_1).f1).length c130_1)∧w'.cell? (ad131.add ((x5_1).toNat * 2)) = some (.int .i64 ((rd_T59 l1 x5_1).f0))∧w'.cell? ⟨(ad131.add ((x5_1).toNat * 2)).block,(ad131.add ((x5_1).toNat * 2)).off + 1,none⟩ = some (.slice A131_1 ((rd_T59 l1 x5_1).f1).length c131_1)) (ds:=[]) m0_ (by kernel_rfl) rfl rfl ⟨((HB.o.cell (World.block_lt_of_cell? w _ hw130_0)).trans hw130_0),((HB.o.cell (World.block_lt_of_cell? w _ hw130_1)).trans hw130_1),((HB.o.cell (World.block_lt_of_cell? w _ hw131_0)).trans hw131_0),((HB.o.cell (World.block_lt_of_cell? w _ hw131_1)).trans hw131_1)⟩ (fun hHeld=>?_);refine with_tabW laws_eqWriteS.tab6 laws_eqWriteS.bits6 (fun HT_ HW_=>?_)
        generalize wr.drew = w11 at HB HR130_1 HR131_1 hx130_0 hx130_1 hx131_0 hx131_1 hHeld ⊢
        refine pp_ 0 17 m1_ rfl rfl HT_.out ?_;refine pp_ 1 18 m2_ rfl rfl HT_.out ?_;refine pp_ 2 19 m7_ rfl rfl HT_.out ?_;refine pp_ 4 21 m8_ rfl rfl HT_.out ?_;refine pp_ 5 22 m28_ rfl rfl HT_.out ?_;refine pp_ 6 23 m29_ rfl rfl HT_.out ?_;refine take_ (i:=3) (N:=some 20) (v:=?_) (a':=?_) m3_ rfl rfl (take_ofW HT_.out HW_.out (by kernel_rfl)) (fun _ _ _ h=>h) (Or.inl ⟨by rfl,?_⟩) hHeld ?_ ?_;rotate_left
        ·rintro w' ⟨s0,s1,s2,s3⟩;go_simp
         with_reducible rfl
        rotate_left
        ·simp only [Act.put,QH,QI,QJ,i64_w,i32_w];rfl
        refine take_ (i:=7) (N:=some 24) (v:=?_) (a':=?_) m4_ rfl rfl (take_ofW HT_.out HW_.out (by kernel_rfl)) (fun _ _ _ h=>h) (Or.inl ⟨by rfl,?_⟩) hHeld ?_ ?_;rotate_left
        ·rintro w' ⟨s0,s1,s2,s3⟩;go_simp
         with_reducible rfl
        rotate_left
        ·simp only [Act.put,QH,QI,QJ,i64_w,i32_w];rfl
        refine one_ (i:=8) (N:=some 25) m5_ rfl rfl (one_of HT_.out (by kernel_rfl)) (by decide) (fun K hK=>?_);refine goes_ Try.func45 (by kernel_rfl) rfl #[.agg #[.int .i64 ((rd_T59 l0 x5_1).f0),.slice A130_1 ((rd_T59 l0 x5_1).f1).length c130_1],.agg #[.int .i64 ((rd_T59 l1 x5_1).f0),.slice A131_1 ((rd_T59 l1 x5_1).f1).length c131_1]] (by rfl) rfl rfl (sf0_) ?_
        with_reducible refine (laws_eqWrite.calls k1 ((rd_T59 l0 x5_1).f0) _ _ ((rd_T59 l0 x5_1).f1) ((rd_T59 l1 x5_1).f0) _ _ ((rd_T59 l1 x5_1).f1) false _ ?side1 ?side2 ?side3 ?side4 A7.o).mono ?_
        (case side1=>exact cb_ HR130_1.o);(case side2=>exact HC130_1.o);(case side3=>exact cb_ HR131_1.o);(case side4=>exact HC131_1.o);rintro e w12 ⟨rfl,hb⟩;refine ⟨_,rfl,?_⟩;have n0_:=Qa (Qm (bg0_) hb);clear HB;have HB:=n0_;clear n0_;(try clear hb);(try clear hb2);(try clear hk);(try clear hi);refine hK.out _ _ ⟨((HB.o.cell (World.block_lt_of_cell? w _ hw130_0)).trans hw130_0),((HB.o.cell (World.block_lt_of_cell? w _ hw130_1)).trans hw130_1),((HB.o.cell (World.block_lt_of_cell? w _ hw131_0)).trans hw131_0),((HB.o.cell (World.block_lt_of_cell? w _ hw131_1)).trans hw131_1)⟩ (fun hHeld=>?_);clear hK K;refine norm_ (a':=?_) ?_ ?_;rotate_left
        ·(show Act.put _ (some 25) _ = _);simp only [Act.put,QH,QI,QJ,i64_w,i32_w];rfl
        refine pp_ 9 26 m6_ rfl rfl HT_.out ?_;refine done_ (done_of HT_.out (by kernel_rfl)) ?_;(try go_wp2);go_ret;exact ⟨sf2_,bg0_⟩
      ·rw [if_neg c6] at H;exact absurd H (by simp)
     ·rw [if_neg c5] at H;exact absurd H (by simp)
    ·rw [if_neg c4] at H;have c4b0 : decide (x5_1 < (l0.length : Int)) = false:=QG c4;clear c4;obtain rfl:=QM H;go_wp2;go_ret;exact ⟨sf2_,bg0_⟩
 ·rw [if_neg c3] at H;have c3b0 : ((l0.length : Int) == (l1.length : Int)) = false:=beq_eq_false_iff_ne.mpr c3;have c3b1 : ((l0.length : Int) != (l1.length : Int)) = true:=bne_iff_ne.mpr c3;(have c3b2 : (l0.length == l1.length) = false:=by first|simpa using c3|(simp at c3 ⊢;omega));obtain rfl:=QM H;go_enter Try.func15,Try.ntmps15;go_wp2;go_ret;exact ⟨sf2_,bg0_⟩

/-! ### laws_markByteS: function 17 -/
def laws_markByteS.l0 : Nat → List Int → Int → Int → Option (Int × List Int)
 | 0,_,_,_=>none
 | k + 1,x0,x1,x5=>if x5 < (x0.length : Int) then (if 0 ≤ x5 then (laws_markByteS.l0 k (x0.set (x5 : Int).toNat ((x1) % 256)) (wrap64 (x1 + 1)) (wrap64 (x5 + 1))) else (none)) else (some (x1,x0))
def laws_markByteS.f (k : Nat) (l0 : List Int) (a1 : Int) : Option (Int × List Int):=laws_markByteS.l0 k l0 a1 0
theorem laws_markByteS.mono_l : ∀ k,(∀ y0 y1 y2,LeO (laws_markByteS.l0 k y0 y1 y2) (laws_markByteS.l0 (k + 1) y0 y1 y2))
 | 0=>fun _ _ _ r h=>by simp [laws_markByteS.l0] at h
 | k + 1=>by
  have ih0:=laws_markByteS.mono_l k
  ·intro y0 y1 y2;unfold laws_markByteS.l0
   repeat' first|(with_reducible first|exact ih0 _ _ _|exact LeO.refl _|exact LeO.none _|refine LeO.ite ?_ ?_|refine LeO.bind ?_ (fun _=>?_))|exact ih0 _ _ _|exact LeO.none _|refine LeO.ite ?_ ?_|refine LeO.bind ?_ (fun _=>?_)
theorem laws_markByteS.mono : ∀ a0 a1 k,LeO (laws_markByteS.f k a0 a1) (laws_markByteS.f (k + 1) a0 a1):=by
 intro a0 a1 k;have ih0:=laws_markByteS.mono_l k;unfold laws_markByteS.f
 repeat' first|(with_reducible first|exact ih0 _ _ _|exact LeO.refl _|exact LeO.none _|refine LeO.ite ?_ ?_|refine LeO.bind ?_ (fun _=>?_))|exact ih0 _ _ _|exact LeO.none _|refine LeO.ite ?_ ?_|refine LeO.bind ?_ (fun _=>?_)
set_option maxHeartbeats 8000000 in
set_option maxRecDepth 100000 in
theorem laws_markByteS.calls (k : Nat) (P0_ : Nat → Prop) (u9000_ : Value) (l0 : List Int) (a1 : Int) (r1 : Int) (r2 : List Int) (w0 w : World) (hB : Below w0.heap.size w0 w) (ho0 : Kd.R (Kd.int .u8) 5 w w0.heap.size P0_ u9000_ l0) (h : laws_markByteS.f k l0 a1 = some (r1,r2)) :
  Calls Try.prog 17 #[u9000_,.int .i64 a1] w fun e w'=>e = .returned (.int .i64 r1)∧Kd.R (Kd.int .u8) 5 w' w0.heap.size (fun k_=>(P0_ k_ ∨ w.heap.size ≤ k_)) u9000_ r2∧Below w0.heap.size w0 w'∧Kept w w' (fun k_=>P0_ k_):=by
 have HO0:=Qa (show Kd.R (Kd.int .u8) 5 w w0.heap.size (fun k_=>(P0_ k_ ∨ w.heap.size ≤ k_)) u9000_ l0 from Qr ho0 (fun k_ hk=>(.inl hk)));have HK:=Qa (Kept.refl w (fun k_=>P0_ k_));have HW0:=Qa hB.size;have HB:=Qa hB;clear hB;have H : (laws_markByteS.l0 k l0 a1 0) = some (r1,r2):=h;clear h;have H':=Qa H;clear H;go_enter Try.func17,Try.ntmps17;go_wp2;go_loopg [1,5] k (fun kq v1 v5 w'=>∃ (x0_1 : List Int) (x1_1 : Int) (x5_1 : Int),v1 = .int .i64 x1_1∧v5 = .int .i64 x5_1∧Aside0 (laws_markByteS.l0 kq x0_1 x1_1 x5_1 = some (r1,r2))∧Aside0 (kq ≤ k)∧Aside0 (Kd.R (Kd.int .u8) 5 w' w0.heap.size (fun k_=>(P0_ k_ ∨ w.heap.size ≤ k_)) u9000_ x0_1)∧Aside0 (Kept w w' (fun k_=>P0_ k_))∧Aside0 (Below w0.heap.size w0 w'))
 case atStart=>exact ⟨(l0),(a1),(0),(sf1_),(sf1_),H',⟨QP _⟩,⟨rR_ HO0.o⟩,⟨by repeat (first|(with_reducible first|exact HK.o|apply Kept.alloc|apply Kept.drewN|apply Kept.drew)|exact HK.o)⟩,⟨bg0_⟩⟩
 case round =>
  clear H';(try clear c1;try clear p2);obtain ⟨x0_1,x1_1,x5_1,rfl,rfl,HA,HK1,HO_0,HK,HB⟩:=hrel
  cases gk with
  | zero=>exact absurd HA.out (by simp [laws_markByteS.l0])
  | succ k1 =>
   have H:=HA.out;clear HA;simp only [laws_markByteS.l0] at H
   by_cases c3 : x5_1 < (x0_1.length : Int)
   ·rw [if_pos c3] at H;have c3b0 : decide (x5_1 < (x0_1.length : Int)) = true:=QF c3;clear c3
    by_cases c4 : 0 ≤ x5_1
    ·rw [if_pos c4] at H;have c4b0 : decide (0 ≤ x5_1) = true:=QF c4;clear c4;obtain ⟨y133,hy133⟩ : ∃ y_ : List Int,y_ = (x0_1.set (x5_1 : Int).toNat ((x1_1) % 256)):=⟨_,rfl⟩;replace H : (laws_markByteS.l0 k1 y133 (wrap64 (x1_1 + 1)) (wrap64 (x5_1 + 1))) = some (r1,r2):=hy_ hy133;have Ny133:=Qa hy133;clear hy133;have H':=Qa H;clear H;obtain ⟨Ao6,co6,eo6⟩:=Kd.R_slice HO_0.o;subst eo6;have p5 : 0 ≤ (x5_1 : Int):=QE (by assumption);have q5 : (x5_1 : Int) < ((x0_1.length : Int) : Int):=QE (by assumption);obtain ⟨go5,co5,eo5,gb5,gl5,cl5,HG5⟩:=Kd.R_form HO_0.o (by omega);(first|cases eo5|(injection eo5 with ea_ en_ ec_;(first|subst ea_|(injection ea_ with ea_;subst ea_));subst ec_;clear en_));have GB5:=Qa gb5;have GG5:=Qa HG5;clear gb5 gl5 HG5;have HMgo5:=Qa (show (P0_ go5 ∨ w.heap.size ≤ go5) from (HO_0.o.1 _ rfl));obtain ⟨hx5_0,hf5_0⟩:=Kd.R_celln 0 HO_0.o (x5_1 : Int) p5 q5;replace p5:=eq_true p5;replace q5:=eq_true q5;have HP7:=Kd.R_putg HO_0.o (x5_1 : Int) ((x1_1) % 256);go_wp2_with (first|((with_reducible refine gate_store (t:=5) (p:=16) rfl ?_);refine store_event (t:=5) (p:=16) (v:=?vo_w8) (w1:=(wr.setCell ⟨go5,(x5_1 : Int).toNat,none⟩ (.int .u8 ((x1_1) % 256)))) ?hg ?ho ?hn ?hr ?_;(case ho=>rfl);(case hg=>rfl);(case hn=>rfl);(case hr=>first|(go_simp;done)|(go_simp;rfl));intro w8 hw;have hg : wr.grownBy w8 (some go5):=(by rw [hw];exact HP7.2);have hp_ : Kd.R (Kd.int .u8) 5 w8 w0.heap.size (fun k_=>(P0_ k_ ∨ w.heap.size ≤ k_)) (.slice (some ⟨go5,0,none⟩) x0_1.length co6) y133:=(by rw [hw,Ny133.out];exact HP7.1);clear HP7;have n0_:=Qa (hp_);have n1_:=Qa ((by rw [hw];exact Ql (HB.o) GB5.out : Below w0.heap.size w0 w8));have n2_:=Qa (Kept.of_grown (S:=(fun k_=>P0_ k_)) hg (by repeat (first|(with_reducible first|exact HK.o|apply Kept.alloc|apply Kept.drewN|apply Kept.drew)|exact HK.o)) (fun k_ e_=>(HO_0.o.1 k_ e_)));clear HO_0;clear HB;clear HK;have HO_0:=n0_;have HB:=n1_;have HK:=n2_;clear n0_ n1_ n2_;clear hg hw hp_));go_roundg k1
     case measure=>have:=HK1.o;omega
     case rel=>exact ⟨(y133),(wrap64 (x1_1 + 1)),(wrap64 (x5_1 + 1)),(sf1_),(sf1_),H',⟨by have:=HK1.o;omega⟩,⟨rR_ HO_0.o⟩,⟨by repeat (first|(with_reducible first|exact HK.o|apply Kept.alloc|apply Kept.drewN|apply Kept.drew)|exact HK.o)⟩,⟨bg0_⟩⟩
    ·rw [if_neg c4] at H;exact absurd H (by simp)
   ·rw [if_neg c3] at H;have c3b0 : decide (x5_1 < (x0_1.length : Int)) = false:=QG c3;clear c3;simp only [Option.some.injEq,Prod.mk.injEq] at H;obtain ⟨rfl,rfl⟩:=H;obtain ⟨Ao9,co9,eo9⟩:=Kd.R_slice HO_0.o;subst eo9;go_wp2;go_ret;exact ⟨sf2_,rR_ HO_0.o,bg0_,by repeat (first|(with_reducible first|exact HK.o|apply Kept.alloc|apply Kept.drewN|apply Kept.drew)|exact HK.o)⟩

/-! ### laws_markWriteS: function 16 -/
def laws_markWriteS.l0 : Nat → List S59 → Int → Int → Option (Int × List S59)
 | 0,_,_,_=>none
 | k + 1,x0,x1,x5=>if x5 < (x0.length : Int) then (if 0 ≤ x5 then ((laws_markByteS.f k (x0.getD x5.toNat z59).f1 (wrap64 (x1 + 1))).bind fun t=>(laws_markWriteS.l0 k (x0.set (x5 : Int).toNat (⟨x1,t.2⟩ : S59)) t.1 (wrap64 (x5 + 1)))) else (none)) else (some (x1,x0))
def laws_markWriteS.f (k : Nat) (l0 : List S59) (a1 : Int) : Option (Int × List S59):=laws_markWriteS.l0 k l0 a1 0
theorem laws_markWriteS.mono_l : ∀ k,(∀ y0 y1 y2,LeO (laws_markWriteS.l0 k y0 y1 y2) (laws_markWriteS.l0 (k + 1) y0 y1 y2))
 | 0=>fun _ _ _ r h=>by simp [laws_markWriteS.l0] at h
 | k + 1=>by
  have ih0:=laws_markWriteS.mono_l k
  ·intro y0 y1 y2;unfold laws_markWriteS.l0
   repeat' first|(with_reducible first|exact ih0 _ _ _|exact laws_markByteS.mono _ _ _|exact LeO.refl _|exact LeO.none _|refine LeO.ite ?_ ?_|refine LeO.bind ?_ (fun _=>?_))|exact ih0 _ _ _|exact laws_markByteS.mono _ _ _|exact LeO.none _|refine LeO.ite ?_ ?_|refine LeO.bind ?_ (fun _=>?_)
theorem laws_markWriteS.mono : ∀ a0 a1 k,LeO (laws_markWriteS.f k a0 a1) (laws_markWriteS.f (k + 1) a0 a1):=by
 intro a0 a1 k;have ih0:=laws_markWriteS.mono_l k;unfold laws_markWriteS.f
 repeat' first|(with_reducible first|exact ih0 _ _ _|exact laws_markByteS.mono _ _ _|exact LeO.refl _|exact LeO.none _|refine LeO.ite ?_ ?_|refine LeO.bind ?_ (fun _=>?_))|exact ih0 _ _ _|exact laws_markByteS.mono _ _ _|exact LeO.none _|refine LeO.ite ?_ ?_|refine LeO.bind ?_ (fun _=>?_)
set_option maxHeartbeats 8000000 in
set_option maxRecDepth 100000 in
theorem laws_markWriteS.calls (k : Nat) (P0_ : Nat → Prop) (u9000_ : Value) (l0 : List S59) (a1 : Int) (r1 : Int) (r2 : List S59) (w0 w : World) (hB : Below w0.heap.size w0 w) (ho0 : Kd.S k59 59 w w0.heap.size P0_ u9000_ l0) (h : laws_markWriteS.f k l0 a1 = some (r1,r2)) :
  Calls Try.prog 16 #[u9000_,.int .i64 a1] w fun e w'=>e = .returned (.int .i64 r1)∧Kd.S k59 59 w' w0.heap.size (fun k_=>(P0_ k_ ∨ w.heap.size ≤ k_)) u9000_ r2∧Below w0.heap.size w0 w'∧Kept w w' (fun k_=>P0_ k_):=by
 have HO0:=Qa ho0;have HK:=Qa (Kept.refl w (fun k_=>P0_ k_));have HB:=Qa hB;clear hB ho0;have H : (laws_markWriteS.l0 k l0 a1 0) = some (r1,r2):=h;clear h;have H':=Qa H;clear H;obtain ⟨Ao6,co6,eo6⟩:=Kd.S_slice HO0.o;subst eo6;go_enter Try.func16,Try.ntmps16;go_wp2;go_loopg [1,5] k (fun kq v1 v5 w'=>∃ (x0_1 : List S59) (x1_1 : Int) (x5_1 : Int),v1 = .int .i64 x1_1∧v5 = .int .i64 x5_1∧Aside0 (laws_markWriteS.l0 kq x0_1 x1_1 x5_1 = some (r1,r2))∧Aside0 (kq ≤ k)∧Aside0 (x0_1.length = l0.length)∧Aside0 (Kd.S k59 59 w' w0.heap.size P0_ (.slice Ao6 l0.length co6) x0_1)∧Aside0 (Kept w w' (fun k_=>P0_ k_))∧Aside0 (Below w0.heap.size w0 w'))
 case atStart=>exact ⟨(l0),(a1),(0),rfl,rfl,H',⟨QP _⟩,⟨rfl⟩,HO0,HK,HB⟩
 case round =>
  clear H';(try clear c1;try clear p2);clear HO0 HK HB;obtain ⟨x0_1,x1_1,x5_1,rfl,rfl,HA,HK1,HN1,HO,HK,HB⟩:=hrel;have hlen:=HN1.out
  cases gk with
  | zero=>exact absurd HA.out (by simp [laws_markWriteS.l0])
  | succ k1 =>
   have H:=HA.out;clear HA;simp only [laws_markWriteS.l0] at H
   by_cases c3 : x5_1 < (x0_1.length : Int)
   ·rw [if_pos c3] at H;rw [hlen] at c3;have c3b0 : decide (x5_1 < (l0.length : Int)) = true:=QF c3
    by_cases c4 : 0 ≤ x5_1
    ·rw [if_pos c4] at H;have c4b0 : decide (0 ≤ x5_1) = true:=QF c4;replace H:=QD H;obtain ⟨⟨t1,t2⟩,A60,H⟩:=H;replace H : (laws_markWriteS.l0 k1 (x0_1.set (x5_1 : Int).toNat (⟨x1_1,t2⟩ : S59)) t1 (wrap64 (x5_1 + 1))) = some (r1,r2):=H;have A6:=Qa A60;clear A60;have H':=Qa H;clear H;obtain ⟨go5,co5,eo5,gb5,gl5,cl5,HG5⟩:=Kd.S_form HO.o (by omega);injection eo5 with ea_ en_ ec_;subst ea_;subst ec_;clear en_;have GP5:=Qa (show P0_ go5 from (Kd.S_R HO.o).1 go5 rfl);have GB5:=Qa gb5;obtain ⟨oki,c,hcl,hM,hcc,hoki,hH⟩:=Kd.S_lend HO.o z59 x5_1 c4 c3;obtain ⟨el,hel⟩ : ∃ el : S59,el = x0_1.getD x5_1.toNat z59:=⟨_,rfl⟩;rw [← hel] at hM;have A7:=Qa (show laws_markByteS.f k1 el.f1 (wrap64 (x1_1 + 1)) = some (t1,t2) by rw [hel];exact A6.o);obtain ⟨v,rfl,hR⟩:=k59_openM hM;clear hel hM;obtain ⟨Av,cv,ev⟩:=Kd.R_slice hR;subst ev;have hat:=Kd.H_at hH c4 c3;have hx0 : wr.cell? ⟨go5,x5_1.toNat * 2,none⟩ = some (.int .i64 el.f0):=hat.1 0 _ rfl;have hx1 : wr.cell? ⟨go5,x5_1.toNat * 2 + 1,none⟩ = some (.slice Av el.f1.length cv):=hat.1 1 _ rfl;have hf0 : wr.frozen? ⟨go5,x5_1.toNat * 2,none⟩ = false:=hat.2 0;have hf1 : wr.frozen? ⟨go5,x5_1.toNat * 2 + 1,none⟩ = false:=hat.2 1;have hseg:=Qa (Kd.H_seg hH c4 c3 (seg:=[.int .i64 x1_1]) (j:=0) (show 0 + 1 ≤ 2 by decide) (by intro q hq;rw [List.mem_singleton.1 hq];rfl));have hRa:=Qa hR;have hoka:=Qa hoki;have p4:=eq_true c4;have q4:=eq_true c3;clear hcc hat hH hR hoki gb5 gl5 HG5;go_wp2_with (first|((with_reducible refine gate_store (t:=3) (p:=16) rfl ?_);refine store_event (t:=3) (p:=16) (v:=?vo_w8) (w1:=(wr.setCell ⟨go5,x5_1.toNat * 2,none⟩ (.int .i64 x1_1))) ?hg ?ho ?hn ?hr ?_;(case ho=>rfl);(case hg=>rfl);(case hn=>rfl);(case hr=>first|(go_simp;done)|(go_simp;rfl));intro w8 hw;have hs2 : Kd.H k59 59 w8 w0.heap.size P0_ (.slice (some ⟨go5,0,none⟩) l0.length co6) x0_1 x5_1 oki [.int .i64 x1_1,.slice Av el.f1.length cv]∧wr.grownBy w8 (some go5):=(by rw [hw];exact hseg.out);have hR2:=Kd.R_grown hRa.out hs2.2 (fun q hq e_=>(hoka.out q hq).2 (by injection e_));have hat2:=Kd.H_at hs2.1 c4 c3;have hx2 : w8.cell? ⟨go5,x5_1.toNat * 2 + 1,none⟩ = some (.slice Av el.f1.length cv):=hat2.1 1 _ rfl;have n0_:=Qa (Kept.of_grown hs2.2 HK.o (fun q e_=>.inl (by injection e_ with e_;rw [← e_];exact GP5.out)));have n1_:=Qa (show Below w0.heap.size w0 w8 by rw [hw];exact Ql HB.o GB5.out);have hs2a:=Qa hs2.1;have hR2a:=Qa hR2;clear HK HB hx0 hx1 hf0 hf1 hat2 hs2 hR2 hw hseg hRa;have HK:=n0_;have HB:=n1_;clear n0_ n1_)|((with_reducible refine gate_callee (f:=17) rfl ?_);refine goesL_ (some 25) rfl rfl Try.func17 (by kernel_rfl) rfl #[.slice Av el.f1.length cv,.int .i64 (wrap64 (x1_1 + 1))] rfl (by (try simp only [QK,QL,List.map_nil]);first|done|rfl) ?_;(refine (laws_markByteS.calls k1 oki _ el.f1 (wrap64 (x1_1 + 1)) t1 t2 w0 _ HB.o hR2a.out A7.o).mono ?_);rintro e w2 ⟨rfl,hy,hb,hk⟩;refine ⟨_,rfl,?_⟩;have hS:=Qa (Kd.H_back (Kd.H_step hs2a.out (fun q h1 h2 h3=>hk.2 q h3 h2)) (k59_mkM _ _ _ (⟨x1_1,t2⟩ : S59) (Qr (Kd.R_tight rfl hy) (fun q hq=>hR2a.out.1 q hq.symm))) (fun q hq=>hq));have hK:=Qa (Kept.then_ HK.o hk (fun q hq=>.inl (hoka.out q hq).1));have hB2:=Qa hb;clear HO HK HB hy hb hk hs2a hR2a hoka));go_roundg k1
     case measure=>have:=HK1.o;omega
     case rel=>exact ⟨_,t1,(wrap64 (x5_1 + 1)),rfl,rfl,H',⟨by have:=HK1.o;omega⟩,⟨by rw [List.length_set];exact hlen⟩,hS,hK,hB2⟩
    ·rw [if_neg c4] at H;exact absurd H (by simp)
   ·rw [if_neg c3] at H;rw [hlen] at c3;have c3b0 : decide (x5_1 < (l0.length : Int)) = false:=QG c3;simp only [Option.some.injEq,Prod.mk.injEq] at H;obtain ⟨rfl,rfl⟩:=H;go_wp2;go_ret;exact ⟨rfl,Qu HO.o (fun q hq=>.inl hq),HB.o,HK.o⟩

/-! ### laws_szByteSS: function 46 -/
def laws_szByteSS.l0 : Nat → List (List Int) → Int → Int → Option (Int)
 | 0,_,_,_=>none
 | k + 1,x0,x1,x5=>if x5 < (x0.length : Int) then (if 0 ≤ x5 then ((laws_szByteS.f (rd_L2 x0 x5) x1).bind fun t135=>(if t135 < 0 then (some (-1)) else (laws_szByteSS.l0 k x0 t135 (wrap64 (x5 + 1))))) else (none)) else (some x1)
def laws_szByteSS.f (k : Nat) (l0 : List (List Int)) (a1 : Int) : Option (Int):=if (wrap64 (a1 - (l0.length : Int))) < 0 then (some (-1)) else (laws_szByteSS.l0 k l0 (wrap64 (a1 - (l0.length : Int))) 0)
theorem laws_szByteSS.mono_l : ∀ k,(∀ y0 y1 y2,LeO (laws_szByteSS.l0 k y0 y1 y2) (laws_szByteSS.l0 (k + 1) y0 y1 y2))
 | 0=>fun _ _ _ r h=>by simp [laws_szByteSS.l0] at h
 | k + 1=>by
  have ih0:=laws_szByteSS.mono_l k
  ·intro y0 y1 y2;unfold laws_szByteSS.l0
   repeat' first|(with_reducible first|exact ih0 _ _ _|exact LeO.refl _|exact LeO.none _|refine LeO.ite ?_ ?_|refine LeO.bind ?_ (fun _=>?_))|exact ih0 _ _ _|exact LeO.none _|refine LeO.ite ?_ ?_|refine LeO.bind ?_ (fun _=>?_)
theorem laws_szByteSS.mono : ∀ a0 a1 k,LeO (laws_szByteSS.f k a0 a1) (laws_szByteSS.f (k + 1) a0 a1):=by
 intro a0 a1 k;have ih0:=laws_szByteSS.mono_l k;unfold laws_szByteSS.f
 repeat' first|(with_reducible first|exact ih0 _ _ _|exact LeO.refl _|exact LeO.none _|refine LeO.ite ?_ ?_|refine LeO.bind ?_ (fun _=>?_))|exact ih0 _ _ _|exact LeO.none _|refine LeO.ite ?_ ?_|refine LeO.bind ?_ (fun _=>?_)
set_option maxHeartbeats 8000000 in
set_option maxRecDepth 100000 in
theorem laws_szByteSS.calls (k : Nat) (A0 : Option Addr) (c0 : Nat) (l0 : List (List Int)) (a1 : Int) (r : Int) (w : World) (hr0 : Kd.C (Kd.slice 5 (Kd.int .u8)) w A0 l0.length l0) (hc0 : l0.length ≤ c0) (h : laws_szByteSS.f k l0 a1 = some r) :
  Calls Try.prog 46 #[.slice A0 l0.length c0,.int .i64 a1] w fun e w'=>e = .returned (.int .i64 r)∧Drawn0 w w':=by
 have HR0:=Qa hr0;have HC0:=Qa hc0;clear hr0 hc0;have H : (if (wrap64 (a1 - (l0.length : Int))) < 0 then (some (-1)) else (laws_szByteSS.l0 k l0 (wrap64 (a1 - (l0.length : Int))) 0)) = some r:=h;clear h
 by_cases c3 : (wrap64 (a1 - (l0.length : Int))) < 0
 ·rw [if_pos c3] at H;have c3b0 : decide ((wrap64 (a1 - (l0.length : Int))) < 0) = true:=QF c3;clear c3;obtain rfl:=QM H;go_enter Try.func46,Try.ntmps46;go_wp2;go_ret;exact ⟨sf1_,by repeat (first|exact Drawn0.refl _|apply Drawn0.step)⟩
 ·rw [if_neg c3] at H;have c3b0 : decide ((wrap64 (a1 - (l0.length : Int))) < 0) = false:=QG c3;clear c3;have H':=Qa H;clear H;go_enter Try.func46,Try.ntmps46;go_wp2;go_loopg [1,5] k (fun kq v1 v5 w'=>∃ (x1_1 : Int) (x5_1 : Int),v1 = .int .i64 x1_1∧v5 = .int .i64 x5_1∧Aside0 (laws_szByteSS.l0 kq l0 x1_1 x5_1 = some r)∧Aside0 (kq ≤ k)∧Drawn0 w w')
  case atStart=>exact ⟨(wrap64 (a1 - (l0.length : Int))),(0),(sf1_),(sf1_),H',⟨QP _⟩,by repeat (first|exact Drawn0.refl _|apply Drawn0.step)⟩
  case round =>
   clear H';(try clear p2;try clear c3;try clear c3b0);obtain ⟨x1_1,x5_1,rfl,rfl,HA,HK1,⟨m1,rfl⟩⟩:=hrel
   cases gk with
   | zero=>exact absurd HA.out (by simp [laws_szByteSS.l0])
   | succ k1 =>
    have H:=HA.out;clear HA;simp only [laws_szByteSS.l0] at H
    by_cases c4 : x5_1 < (l0.length : Int)
    ·rw [if_pos c4] at H;have c4b0 : decide (x5_1 < (l0.length : Int)) = true:=QF c4;clear c4
     by_cases c5 : 0 ≤ x5_1
     ·rw [if_pos c5] at H;have c5b0 : decide (0 ≤ x5_1) = true:=QF c5;clear c5;replace H:=QD H;obtain ⟨t135,A60,H⟩:=H;replace H : (if t135 < 0 then (some (-1)) else (laws_szByteSS.l0 k1 l0 t135 (wrap64 (x5_1 + 1)))) = some r:=H;have A6:=Qa A60;clear A60
      by_cases c7 : t135 < 0
      ·rw [if_pos c7] at H;have c7b0 : decide (t135 < 0) = true:=QF c7;clear c7;obtain rfl:=QM H;have p134 : 0 ≤ (x5_1 : Int):=QE (by assumption);have q134 : x5_1 < (l0.length : Int):=QE (by assumption);obtain ⟨ad134,A134_0,c134_0,e134,hx134_0,hl134_0,hi134_0⟩:=at_L2 HR0.o x5_1 p134 q134;cases e134;have HR134_0:=Qa hi134_0;have HC134_0:=Qa hl134_0;clear hi134_0 hl134_0;replace p134:=eq_true p134;replace q134:=eq_true q134;go_wp2_with (first|((with_reducible refine gate_callee (f:=67) rfl ?_);refine goesL_ (some 23) rfl rfl Try.func67 (by kernel_rfl) rfl #[.slice A134_0 (rd_L2 l0 x5_1).length c134_0,.int .i64 x1_1] rfl (sf0_) ?_;(with_reducible refine (laws_szByteS.calls _ _ (rd_L2 l0 x5_1) x1_1 t135 _ ?side1 ?side2 A6.o).mono ?_);(case side1=>exact cd_ HR134_0.o);(case side2=>exact HC134_0.o);rintro e w' ⟨rfl,⟨nd,rfl⟩⟩;refine ⟨_,rfl,?_⟩));go_ret;exact ⟨sf1_,by repeat (first|exact Drawn0.refl _|apply Drawn0.step)⟩
      ·rw [if_neg c7] at H;have c7b0 : decide (t135 < 0) = false:=QG c7;clear c7;have H':=Qa H;clear H;have p134 : 0 ≤ (x5_1 : Int):=QE (by assumption);have q134 : x5_1 < (l0.length : Int):=QE (by assumption);obtain ⟨ad134,A134_0,c134_0,e134,hx134_0,hl134_0,hi134_0⟩:=at_L2 HR0.o x5_1 p134 q134;cases e134;have HR134_0:=Qa hi134_0;have HC134_0:=Qa hl134_0;clear hi134_0 hl134_0;replace p134:=eq_true p134;replace q134:=eq_true q134;go_wp2_with (first|((with_reducible refine gate_callee (f:=67) rfl ?_);refine goesL_ (some 23) rfl rfl Try.func67 (by kernel_rfl) rfl #[.slice A134_0 (rd_L2 l0 x5_1).length c134_0,.int .i64 x1_1] rfl (sf0_) ?_;(with_reducible refine (laws_szByteS.calls _ _ (rd_L2 l0 x5_1) x1_1 t135 _ ?side1 ?side2 A6.o).mono ?_);(case side1=>exact cd_ HR134_0.o);(case side2=>exact HC134_0.o);rintro e w' ⟨rfl,⟨nd,rfl⟩⟩;refine ⟨_,rfl,?_⟩));go_roundg k1
       case measure=>have:=HK1.o;omega
       case rel=>exact ⟨(t135),(wrap64 (x5_1 + 1)),(sf1_),(sf1_),H',⟨by have:=HK1.o;omega⟩,by repeat (first|exact Drawn0.refl _|apply Drawn0.step)⟩
     ·rw [if_neg c5] at H;exact absurd H (by simp)
    ·rw [if_neg c4] at H;have c4b0 : decide (x5_1 < (l0.length : Int)) = false:=QG c4;clear c4;obtain rfl:=QM H;go_wp2;go_ret;exact ⟨sf1_,by repeat (first|exact Drawn0.refl _|apply Drawn0.step)⟩

/-! ### laws_szDisk: function 19 -/
def laws_szDisk.f (k : Nat) (l0_0 : List (List Int)) (a0_1 : Int) (a0_2 : Bool) (a0_3 : Int) (a1 : Int) : Option (Int):=(laws_szByteSS.f k l0_0 a1).bind fun t137=>(if t137 < 0 then (some (-1)) else (some t137))
theorem laws_szDisk.mono : ∀ a0 a1 a2 a3 a4 k,LeO (laws_szDisk.f k a0 a1 a2 a3 a4) (laws_szDisk.f (k + 1) a0 a1 a2 a3 a4):=by
 intro a0 a1 a2 a3 a4 k;unfold laws_szDisk.f
 repeat' first|(with_reducible first|exact laws_szByteSS.mono _ _ _|exact LeO.refl _|exact LeO.none _|refine LeO.ite ?_ ?_|refine LeO.bind ?_ (fun _=>?_))|exact laws_szByteSS.mono _ _ _|exact LeO.none _|refine LeO.ite ?_ ?_|refine LeO.bind ?_ (fun _=>?_)
set_option maxHeartbeats 8000000 in
set_option maxRecDepth 100000 in
theorem laws_szDisk.calls (k : Nat) (A0_0 : Option Addr) (c0_0 : Nat) (l0_0 : List (List Int)) (a0_1 : Int) (a0_2 : Bool) (a0_3 : Int) (a1 : Int) (r : Int) (w : World) (hr0_0 : Kd.C (Kd.slice 5 (Kd.int .u8)) w A0_0 l0_0.length l0_0) (hc0_0 : l0_0.length ≤ c0_0) (h : laws_szDisk.f k l0_0 a0_1 a0_2 a0_3 a1 = some r) :
  Calls Try.prog 19 #[.agg #[.slice A0_0 l0_0.length c0_0,.int .i64 a0_1,.bool a0_2,.int .i64 a0_3],.int .i64 a1] w fun e w'=>e = .returned (.int .i64 r)∧Below w.heap.size w w':=by
 have hu36:=Try.underlying36;have HR0_0:=Qa hr0_0;have HC0_0:=Qa hc0_0;clear hr0_0 hc0_0;have HB:=Qa (Below.refl w.heap.size w);have H : ((laws_szByteSS.f k l0_0 a1).bind fun t137=>(if t137 < 0 then (some (-1)) else (some t137))) = some r:=h;clear h;replace H:=QD H;obtain ⟨t137,A30,H⟩:=H;replace H : (if t137 < 0 then (some (-1)) else (some t137)) = some r:=H;have A3:=Qa A30;clear A30
 by_cases c4 : t137 < 0
 ·rw [if_pos c4] at H;have c4b0 : decide (t137 < 0) = true:=QF c4;clear c4;obtain rfl:=QM H;go_enter Try.func19,Try.ntmps19;go_wp2_with (first|((with_reducible refine gate_dst (N:=2) rfl ?_);refine box_event ?hg (N:=2) ?hd (cs:=#[.slice A0_0 l0_0.length c0_0,.int .i64 a0_1,.bool a0_2,.int .i64 a0_3]) (t:=36) ?hr ?_;(case hd=>rfl);(case hg=>rfl);(case hr=>first|(go_simp;done)|(go_simp;rfl));intro gb136 hg w5 hbox hb;have n0_:=Qa (Qm (bg0_) hb);have n1_:=Qa (hbox);have n2_:=Qa ((by rw [hg];exact (Qn (bg0_)) : w.heap.size ≤ gb136));have n3_:=Qa ((by rw [hg];exact (Qn (bg0_)) : w.heap.size ≤ gb136));clear HB;have HB:=n0_;have BK136:=n1_;have GW136:=n2_;have GE136:=n3_;clear n0_ n1_ n2_ n3_;clear hb hbox hg;have hcz6_0 : w5.cell? ⟨gb136,0,none⟩ = some (.slice A0_0 l0_0.length c0_0):=(Qb BK136.o 0).trans rfl;have hcz6_1 : w5.cell? ⟨gb136,1,none⟩ = some (.int .i64 a0_1):=(Qb BK136.o 1).trans rfl;have hcz6_2 : w5.cell? ⟨gb136,2,none⟩ = some (.bool a0_2):=(Qb BK136.o 2).trans rfl;have hcz6_3 : w5.cell? ⟨gb136,3,none⟩ = some (.int .i64 a0_3):=(Qb BK136.o 3).trans rfl;have hfz6_0:=Qc BK136.o 0;have hfz6_1:=Qc BK136.o 1;have hfz6_2:=Qc BK136.o 2;have hfz6_3:=Qc BK136.o 3)|((with_reducible refine gate_callee (f:=46) rfl ?_);refine goesL_ (some 8) rfl rfl Try.func46 (by kernel_rfl) rfl #[.slice A0_0 l0_0.length c0_0,.int .i64 a1] rfl (sf0_) ?_;(with_reducible refine (laws_szByteSS.calls k _ _ l0_0 a1 t137 _ ?side1 ?side2 A3.o).mono ?_);(case side1=>exact cb_ HR0_0.o);(case side2=>exact HC0_0.o);rintro e w' ⟨rfl,⟨nd,rfl⟩⟩;refine ⟨_,rfl,?_⟩));go_ret;exact ⟨sf2_,b136_⟩
 ·rw [if_neg c4] at H;have c4b0 : decide (t137 < 0) = false:=QG c4;clear c4;obtain rfl:=QM H;go_enter Try.func19,Try.ntmps19;go_wp2_with (first|((with_reducible refine gate_dst (N:=2) rfl ?_);refine box_event ?hg (N:=2) ?hd (cs:=#[.slice A0_0 l0_0.length c0_0,.int .i64 a0_1,.bool a0_2,.int .i64 a0_3]) (t:=36) ?hr ?_;(case hd=>rfl);(case hg=>rfl);(case hr=>first|(go_simp;done)|(go_simp;rfl));intro gb136 hg w7 hbox hb;have n0_:=Qa (Qm (bg0_) hb);have n1_:=Qa (hbox);have n2_:=Qa ((by rw [hg];exact (Qn (bg0_)) : w.heap.size ≤ gb136));have n3_:=Qa ((by rw [hg];exact (Qn (bg0_)) : w.heap.size ≤ gb136));clear HB;have HB:=n0_;have BK136:=n1_;have GW136:=n2_;have GE136:=n3_;clear n0_ n1_ n2_ n3_;clear hb hbox hg;have hcz8_0 : w7.cell? ⟨gb136,0,none⟩ = some (.slice A0_0 l0_0.length c0_0):=(Qb BK136.o 0).trans rfl;have hcz8_1 : w7.cell? ⟨gb136,1,none⟩ = some (.int .i64 a0_1):=(Qb BK136.o 1).trans rfl;have hcz8_2 : w7.cell? ⟨gb136,2,none⟩ = some (.bool a0_2):=(Qb BK136.o 2).trans rfl;have hcz8_3 : w7.cell? ⟨gb136,3,none⟩ = some (.int .i64 a0_3):=(Qb BK136.o 3).trans rfl;have hfz8_0:=Qc BK136.o 0;have hfz8_1:=Qc BK136.o 1;have hfz8_2:=Qc BK136.o 2;have hfz8_3:=Qc BK136.o 3)|((with_reducible refine gate_callee (f:=46) rfl ?_);refine goesL_ (some 8) rfl rfl Try.func46 (by kernel_rfl) rfl #[.slice A0_0 l0_0.length c0_0,.int .i64 a1] rfl (sf0_) ?_;(with_reducible refine (laws_szByteSS.calls k _ _ l0_0 a1 t137 _ ?side1 ?side2 A3.o).mono ?_);(case side1=>exact cb_ HR0_0.o);(case side2=>exact HC0_0.o);rintro e w' ⟨rfl,⟨nd,rfl⟩⟩;refine ⟨_,rfl,?_⟩));go_ret;exact ⟨sf2_,b136_⟩

end Go.Proofs.Ytfjboeeogjepeaa.PFnExactCommitGroup
