-- Written by a program of this session over the print of the kit (wip/t/patch_print.py).
import Derived.Test.YtcdlookokffkeaaPFnExactNeedForKeysx0
import Derived.Test.YtcdlookokffkeaaPFnExactNeedForKeysx2
namespace Go.Proofs.Ytcdlookokffkeaa.PFnExactNeedForKeys
open Go.RowKit Go.Proofs.YtcdlookokffkeaaW.PrintWords Go.Proofs.YtcdlookokffkeaaW.PrintLast Go.Proofs.YtcdlookokffkeaaW.PrintMore
attribute [local go_sem] max2_int min2_int max_two min_two max_three min_three max_four min_four   -- for this text's walks alone
set_option linter.unusedVariables false
set_option linter.unusedSimpArgs false

/-! ### laws_eqKeySetS: function 23 -/
def laws_eqKeySetS.l0 : Nat → List (S73) → List (S73) → Int → Option (Bool)
 | 0,_,_,_=>none
 | k + 1,x0,x1,x5=>if x5 < (x0.length : Int) then (if 0 ≤ x5 then (if x5 < (x1.length : Int) then ((laws_eqKeySet.f ((rd_T73 x0 x5).f0) ((rd_T73 x0 x5).f1) ((rd_T73 x1 x5).f0) ((rd_T73 x1 x5).f1)).bind fun t158=>(if t158 = true then (laws_eqKeySetS.l0 k x0 x1 (wrap64 (x5 + 1))) else (some false))) else (none)) else (none)) else (some true)
def laws_eqKeySetS.f (k : Nat) (l0 : List (S73)) (l1 : List (S73)) : Option (Bool):=if (l0.length : Int) = (l1.length : Int) then (laws_eqKeySetS.l0 k l0 l1 0) else (some false)
theorem laws_eqKeySetS.mono_l : ∀ k,(∀ y0 y1 y2,LeO (laws_eqKeySetS.l0 k y0 y1 y2) (laws_eqKeySetS.l0 (k + 1) y0 y1 y2))
 | 0=>fun _ _ _ r h=>by simp [laws_eqKeySetS.l0] at h
 | k + 1=>by
  have ih0:=laws_eqKeySetS.mono_l k
  ·intro y0 y1 y2;unfold laws_eqKeySetS.l0
   repeat' first|(with_reducible first|exact ih0 _ _ _|exact LeO.refl _|exact LeO.none _|refine LeO.ite ?_ ?_|refine LeO.bind ?_ (fun _=>?_))|exact ih0 _ _ _|exact LeO.none _|refine LeO.ite ?_ ?_|refine LeO.bind ?_ (fun _=>?_)
theorem laws_eqKeySetS.mono : ∀ a0 a1 k,LeO (laws_eqKeySetS.f k a0 a1) (laws_eqKeySetS.f (k + 1) a0 a1):=by
 intro a0 a1 k;have ih0:=laws_eqKeySetS.mono_l k;unfold laws_eqKeySetS.f
 repeat' first|(with_reducible first|exact ih0 _ _ _|exact LeO.refl _|exact LeO.none _|refine LeO.ite ?_ ?_|refine LeO.bind ?_ (fun _=>?_))|exact ih0 _ _ _|exact LeO.none _|refine LeO.ite ?_ ?_|refine LeO.bind ?_ (fun _=>?_)
def laws_eqKeySetS.T6 : Bool × List (List Nat × List Nat):=(true,[([],[]),([],[]),([0,1],[0,1]),([2],[2]),([],[]),([],[]),([4,5],[4,5]),([6],[6]),([3,7],[3,7]),([8],[8])])
def laws_eqKeySetS.B6 : List Nat:=[0,0,3,7,0,0,48,112,255,511]
theorem laws_eqKeySetS.tab6 : rtab .any (opsOf Try.f23 6) = laws_eqKeySetS.T6:=by kernel_rfl
theorem laws_eqKeySetS.bits6 : waitsOk laws_eqKeySetS.T6.2 laws_eqKeySetS.B6 = true:=by kernel_rfl
set_option maxHeartbeats 8000000 in
set_option maxRecDepth 100000 in
theorem laws_eqKeySetS.calls (k : Nat) (A0 : Option Addr) (c0 : Nat) (l0 : List (S73)) (A1 : Option Addr) (c1 : Nat) (l1 : List (S73)) (r : Bool) (w : World) (hr0 : Kd.C k73 w A0 l0.length l0) (hc0 : l0.length ≤ c0) (hr1 : Kd.C k73 w A1 l1.length l1) (hc1 : l1.length ≤ c1) (h : laws_eqKeySetS.f k l0 l1 = some r) :
  Calls Try.prog 23 #[.slice A0 l0.length c0,.slice A1 l1.length c1] w fun e w'=>e = .returned (.bool r)∧Below w.heap.size w w':=by
 have hu73:=Try.underlying73;have HR0:=Qa hr0;have HC0:=Qa hc0;clear hr0 hc0;have HR1:=Qa hr1;have HC1:=Qa hc1;clear hr1 hc1;have HB:=Qa (Below.refl w.heap.size w);have H : (if (l0.length : Int) = (l1.length : Int) then (laws_eqKeySetS.l0 k l0 l1 0) else (some false)) = some r:=h;clear h
 by_cases c3 : (l0.length : Int) = (l1.length : Int)
 ·rw [if_pos c3] at H;have c3b0 : ((l0.length : Int) == (l1.length : Int)) = true:=beq_iff_eq.mpr c3;have c3b1 : ((l0.length : Int) != (l1.length : Int)) = false:=bne_eq_false_iff_eq.mpr c3;(have c3b2 : (l0.length == l1.length) = true:=by first|simpa using c3|(simp at c3 ⊢;omega));clear c3;have H':=Qa H;clear H;go_enter Try.func23,Try.ntmps23;go_wp2;go_loopg [5] k (fun kq v5 w'=>∃ (x5_1 : Int),v5 = .int .i64 x5_1∧Aside0 (laws_eqKeySetS.l0 kq l0 l1 x5_1 = some r)∧Aside0 (kq ≤ k)∧Aside0 (Below w.heap.size w w'))
  case atStart=>exact ⟨(0),(sf1_),H',⟨QO _⟩,⟨bg0_⟩⟩
  case round =>
   clear H';(try clear c1;try clear c2;try clear p2;try clear c3;try clear c3b0;try clear c3b1;try clear c3b2);obtain ⟨x5_1,rfl,HA,HK1,HB⟩:=hrel
   cases gk with
   | zero=>exact absurd HA.out (by simp [laws_eqKeySetS.l0])
   | succ k1 =>
    have H:=HA.out;clear HA;simp only [laws_eqKeySetS.l0] at H
    by_cases c4 : x5_1 < (l0.length : Int)
    ·rw [if_pos c4] at H;have c4b0 : decide (x5_1 < (l0.length : Int)) = true:=QG c4;clear c4
     by_cases c5 : 0 ≤ x5_1
     ·rw [if_pos c5] at H;have c5b0 : decide (0 ≤ x5_1) = true:=QG c5;clear c5
      by_cases c6 : x5_1 < (l1.length : Int)
      ·rw [if_pos c6] at H;have c6b0 : decide (x5_1 < (l1.length : Int)) = true:=QG c6;clear c6;replace H:=QE H;obtain ⟨t158,A70,H⟩:=H;replace H : (if t158 = true then (laws_eqKeySetS.l0 k1 l0 l1 (wrap64 (x5_1 + 1))) else (some false)) = some r:=H;have A7:=Qa A70;clear A70
       by_cases c8 : t158 = true
       ·subst c8;(have H1 : (laws_eqKeySetS.l0 k1 l0 l1 (wrap64 (x5_1 + 1))) = some r:=by rw [if_pos rfl] at H;exact H);clear H;have H:=H1;clear H1;have H':=Qa H;clear H;(try go_wp2);have n0_:=Qa (Qj HB.o);clear HB;have HB:=n0_;clear n0_;have p156 : 0 ≤ (x5_1 : Int):=QF (by assumption);have q156 : x5_1 < (l0.length : Int):=QF (by assumption);obtain ⟨ad156,e156,hx156_0,hx156_1⟩:=at_T73 HR0.o x5_1 p156 q156;have hw156_1:=hx156_1;have hw156_0:=hx156_0;cases e156;(try replace hx156_0:=(HB.o.cell (World.block_lt_of_cell? w _ hx156_0)).trans hx156_0);(try replace hx156_1:=(HB.o.cell (World.block_lt_of_cell? w _ hx156_1)).trans hx156_1);replace p156:=eq_true p156;replace q156:=eq_true q156;have p157 : 0 ≤ (x5_1 : Int):=QF (by assumption);have q157 : x5_1 < (l1.length : Int):=QF (by assumption);obtain ⟨ad157,e157,hx157_0,hx157_1⟩:=at_T73 HR1.o x5_1 p157 q157;have hw157_1:=hx157_1;have hw157_0:=hx157_0;cases e157;(try replace hx157_0:=(HB.o.cell (World.block_lt_of_cell? w _ hx157_0)).trans hx157_0);(try replace hx157_1:=(HB.o.cell (World.block_lt_of_cell? w _ hx157_1)).trans hx157_1);replace p157:=eq_true p157;replace q157:=eq_true q157;refine start_ (n:=10) (S:=fun w'=>w'.cell? (ad156.add ((x5_1).toNat * 2)) = some (.int .i64 ((rd_T73 l0 x5_1).f0))∧w'.cell? ⟨(ad156.add ((x5_1).toNat * 2)).block,(ad156.add ((x5_1).toNat * 2)).off + 1,none⟩ = some (.int .i64 ((rd_T73 l0 x5_1).f1))∧w'.cell? (ad157.add ((x5_1).toNat * 2)) = some (.int .i64 ((rd_T73 l1 x5_1).f0))∧w'.cell? ⟨(ad157.add ((x5_1).toNat * 2)).block,(ad157.add ((x5_1).toNat * 2)).off + 1,none⟩ = some (.int .i64 ((rd_T73 l1 x5_1).f1))) (ds:=[]) m50_ (by kernel_rfl) rfl rfl ⟨((HB.o.cell (World.block_lt_of_cell? w _ hw156_0)).trans hw156_0),((HB.o.cell (World.block_lt_of_cell? w _ hw156_1)).trans hw156_1),((HB.o.cell (World.block_lt_of_cell? w _ hw157_0)).trans hw157_0),((HB.o.cell (World.block_lt_of_cell? w _ hw157_1)).trans hw157_1)⟩ (fun hHeld=>?_);refine with_tabW laws_eqKeySetS.tab6 laws_eqKeySetS.bits6 (fun HT_ HW_=>?_)
        generalize wr.drew = w9 at HB hx156_0 hx156_1 hx157_0 hx157_1 hHeld ⊢
        refine pp_ 0 17 m51_ rfl rfl HT_.out ?_;refine pp_ 1 18 m52_ rfl rfl HT_.out ?_;refine pp_ 2 19 m53_ rfl rfl HT_.out ?_;refine pp_ 4 21 m54_ rfl rfl HT_.out ?_;refine pp_ 5 22 m55_ rfl rfl HT_.out ?_;refine pp_ 6 23 m56_ rfl rfl HT_.out ?_;refine take_ (i:=3) (N:=some 20) (v:=?_) (a':=?_) m57_ rfl rfl (take_ofW HT_.out HW_.out (by kernel_rfl)) (fun _ _ _ h=>h) (Or.inl ⟨by rfl,?_⟩) hHeld ?_ ?_;rotate_left
        ·rintro w' ⟨s0,s1,s2,s3⟩;go_simp
         with_reducible rfl
        rotate_left
        ·simp only [Act.put,QI,QJ,QK,i64_w,i32_w];rfl
        refine take_ (i:=7) (N:=some 24) (v:=?_) (a':=?_) m58_ rfl rfl (take_ofW HT_.out HW_.out (by kernel_rfl)) (fun _ _ _ h=>h) (Or.inl ⟨by rfl,?_⟩) hHeld ?_ ?_;rotate_left
        ·rintro w' ⟨s0,s1,s2,s3⟩;go_simp
         with_reducible rfl
        rotate_left
        ·simp only [Act.put,QI,QJ,QK,i64_w,i32_w];rfl
        refine one_ (i:=8) (N:=some 25) m59_ rfl rfl (one_of HT_.out (by kernel_rfl)) (by decide) (fun K hK=>?_);refine goes_ Try.func52 (by kernel_rfl) rfl #[.agg #[.int .i64 ((rd_T73 l0 x5_1).f0),.int .i64 ((rd_T73 l0 x5_1).f1)],.agg #[.int .i64 ((rd_T73 l1 x5_1).f0),.int .i64 ((rd_T73 l1 x5_1).f1)]] (by rfl) rfl rfl (sf0_) ?_
        with_reducible refine (laws_eqKeySet.calls ((rd_T73 l0 x5_1).f0) ((rd_T73 l0 x5_1).f1) ((rd_T73 l1 x5_1).f0) ((rd_T73 l1 x5_1).f1) true _ A7.o).mono ?_
        rintro e w10 ⟨rfl,hb⟩;refine ⟨_,rfl,?_⟩;have n0_:=Qa (Ql (bg0_) hb);clear HB;have HB:=n0_;clear n0_;(try clear hb);(try clear hb2);(try clear hk);(try clear hi);refine hK.out _ _ ⟨((HB.o.cell (World.block_lt_of_cell? w _ hw156_0)).trans hw156_0),((HB.o.cell (World.block_lt_of_cell? w _ hw156_1)).trans hw156_1),((HB.o.cell (World.block_lt_of_cell? w _ hw157_0)).trans hw157_0),((HB.o.cell (World.block_lt_of_cell? w _ hw157_1)).trans hw157_1)⟩ (fun hHeld=>?_);clear hK K;refine norm_ (a':=?_) ?_ ?_;rotate_left
        ·(show Act.put _ (some 25) _ = _);simp only [Act.put,QI,QJ,QK,i64_w,i32_w];rfl
        refine pp_ 9 26 m60_ rfl rfl HT_.out ?_;refine done_ (done_of HT_.out (by kernel_rfl)) ?_;(try go_wp2);go_roundg k1
        case measure=>have:=HK1.o;omega
        case rel=>exact ⟨(wrap64 (x5_1 + 1)),(sf1_),H',⟨by have:=HK1.o;omega⟩,⟨bg0_⟩⟩
       ·replace c8:=QM c8;subst c8;(have H1 : (some false) = some r:=by rw [if_neg (show ¬ (false = true) by decide)] at H;exact H);clear H;have H:=H1;clear H1;obtain rfl:=QL H;(try go_wp2);have n0_:=Qa (Qj HB.o);clear HB;have HB:=n0_;clear n0_;have p156 : 0 ≤ (x5_1 : Int):=QF (by assumption);have q156 : x5_1 < (l0.length : Int):=QF (by assumption);obtain ⟨ad156,e156,hx156_0,hx156_1⟩:=at_T73 HR0.o x5_1 p156 q156;have hw156_1:=hx156_1;have hw156_0:=hx156_0;cases e156;(try replace hx156_0:=(HB.o.cell (World.block_lt_of_cell? w _ hx156_0)).trans hx156_0);(try replace hx156_1:=(HB.o.cell (World.block_lt_of_cell? w _ hx156_1)).trans hx156_1);replace p156:=eq_true p156;replace q156:=eq_true q156;have p157 : 0 ≤ (x5_1 : Int):=QF (by assumption);have q157 : x5_1 < (l1.length : Int):=QF (by assumption);obtain ⟨ad157,e157,hx157_0,hx157_1⟩:=at_T73 HR1.o x5_1 p157 q157;have hw157_1:=hx157_1;have hw157_0:=hx157_0;cases e157;(try replace hx157_0:=(HB.o.cell (World.block_lt_of_cell? w _ hx157_0)).trans hx157_0);(try replace hx157_1:=(HB.o.cell (World.block_lt_of_cell? w _ hx157_1)).trans hx157_1);replace p157:=eq_true p157;replace q157:=eq_true q157;refine start_ (n:=10) (S:=fun w'=>w'.cell? (ad156.add ((x5_1).toNat * 2)) = some (.int .i64 ((rd_T73 l0 x5_1).f0))∧w'.cell? ⟨(ad156.add ((x5_1).toNat * 2)).block,(ad156.add ((x5_1).toNat * 2)).off + 1,none⟩ = some (.int .i64 ((rd_T73 l0 x5_1).f1))∧w'.cell? (ad157.add ((x5_1).toNat * 2)) = some (.int .i64 ((rd_T73 l1 x5_1).f0))∧w'.cell? ⟨(ad157.add ((x5_1).toNat * 2)).block,(ad157.add ((x5_1).toNat * 2)).off + 1,none⟩ = some (.int .i64 ((rd_T73 l1 x5_1).f1))) (ds:=[]) m50_ (by kernel_rfl) rfl rfl ⟨((HB.o.cell (World.block_lt_of_cell? w _ hw156_0)).trans hw156_0),((HB.o.cell (World.block_lt_of_cell? w _ hw156_1)).trans hw156_1),((HB.o.cell (World.block_lt_of_cell? w _ hw157_0)).trans hw157_0),((HB.o.cell (World.block_lt_of_cell? w _ hw157_1)).trans hw157_1)⟩ (fun hHeld=>?_);refine with_tabW laws_eqKeySetS.tab6 laws_eqKeySetS.bits6 (fun HT_ HW_=>?_)
        generalize wr.drew = w11 at HB hx156_0 hx156_1 hx157_0 hx157_1 hHeld ⊢
        refine pp_ 0 17 m51_ rfl rfl HT_.out ?_;refine pp_ 1 18 m52_ rfl rfl HT_.out ?_;refine pp_ 2 19 m53_ rfl rfl HT_.out ?_;refine pp_ 4 21 m54_ rfl rfl HT_.out ?_;refine pp_ 5 22 m55_ rfl rfl HT_.out ?_;refine pp_ 6 23 m56_ rfl rfl HT_.out ?_;refine take_ (i:=3) (N:=some 20) (v:=?_) (a':=?_) m57_ rfl rfl (take_ofW HT_.out HW_.out (by kernel_rfl)) (fun _ _ _ h=>h) (Or.inl ⟨by rfl,?_⟩) hHeld ?_ ?_;rotate_left
        ·rintro w' ⟨s0,s1,s2,s3⟩;go_simp
         with_reducible rfl
        rotate_left
        ·simp only [Act.put,QI,QJ,QK,i64_w,i32_w];rfl
        refine take_ (i:=7) (N:=some 24) (v:=?_) (a':=?_) m58_ rfl rfl (take_ofW HT_.out HW_.out (by kernel_rfl)) (fun _ _ _ h=>h) (Or.inl ⟨by rfl,?_⟩) hHeld ?_ ?_;rotate_left
        ·rintro w' ⟨s0,s1,s2,s3⟩;go_simp
         with_reducible rfl
        rotate_left
        ·simp only [Act.put,QI,QJ,QK,i64_w,i32_w];rfl
        refine one_ (i:=8) (N:=some 25) m59_ rfl rfl (one_of HT_.out (by kernel_rfl)) (by decide) (fun K hK=>?_);refine goes_ Try.func52 (by kernel_rfl) rfl #[.agg #[.int .i64 ((rd_T73 l0 x5_1).f0),.int .i64 ((rd_T73 l0 x5_1).f1)],.agg #[.int .i64 ((rd_T73 l1 x5_1).f0),.int .i64 ((rd_T73 l1 x5_1).f1)]] (by rfl) rfl rfl (sf0_) ?_
        with_reducible refine (laws_eqKeySet.calls ((rd_T73 l0 x5_1).f0) ((rd_T73 l0 x5_1).f1) ((rd_T73 l1 x5_1).f0) ((rd_T73 l1 x5_1).f1) false _ A7.o).mono ?_
        rintro e w12 ⟨rfl,hb⟩;refine ⟨_,rfl,?_⟩;have n0_:=Qa (Ql (bg0_) hb);clear HB;have HB:=n0_;clear n0_;(try clear hb);(try clear hb2);(try clear hk);(try clear hi);refine hK.out _ _ ⟨((HB.o.cell (World.block_lt_of_cell? w _ hw156_0)).trans hw156_0),((HB.o.cell (World.block_lt_of_cell? w _ hw156_1)).trans hw156_1),((HB.o.cell (World.block_lt_of_cell? w _ hw157_0)).trans hw157_0),((HB.o.cell (World.block_lt_of_cell? w _ hw157_1)).trans hw157_1)⟩ (fun hHeld=>?_);clear hK K;refine norm_ (a':=?_) ?_ ?_;rotate_left
        ·(show Act.put _ (some 25) _ = _);simp only [Act.put,QI,QJ,QK,i64_w,i32_w];rfl
        refine pp_ 9 26 m60_ rfl rfl HT_.out ?_;refine done_ (done_of HT_.out (by kernel_rfl)) ?_;(try go_wp2);go_ret;exact ⟨sf2_,bg0_⟩
      ·rw [if_neg c6] at H;exact absurd H (by simp)
     ·rw [if_neg c5] at H;exact absurd H (by simp)
    ·rw [if_neg c4] at H;have c4b0 : decide (x5_1 < (l0.length : Int)) = false:=QH c4;clear c4;obtain rfl:=QL H;go_wp2;go_ret;exact ⟨sf2_,bg0_⟩
 ·rw [if_neg c3] at H;have c3b0 : ((l0.length : Int) == (l1.length : Int)) = false:=beq_eq_false_iff_ne.mpr c3;have c3b1 : ((l0.length : Int) != (l1.length : Int)) = true:=bne_iff_ne.mpr c3;(have c3b2 : (l0.length == l1.length) = false:=by first|simpa using c3|(simp at c3 ⊢;omega));obtain rfl:=QL H;go_enter Try.func23,Try.ntmps23;go_wp2;go_ret;exact ⟨sf2_,bg0_⟩

/-! ### laws_szKeySetS: function 26 -/
def laws_szKeySetS.f (l0 : List (S79)) (a1 : Int) : Option (Int):=if (wrap64 (a1 - (l0.length : Int))) < 0 then (some (-1)) else (some (wrap64 (a1 - (l0.length : Int))))
set_option maxHeartbeats 8000000 in
set_option maxRecDepth 100000 in
theorem laws_szKeySetS.calls (A0 : Option Addr) (c0 : Nat) (l0 : List (S79)) (a1 : Int) (r : Int) (w : World) (hr0 : Kd.C k79 w A0 l0.length l0) (hc0 : l0.length ≤ c0) (h : laws_szKeySetS.f l0 a1 = some r) :
  Calls Try.prog 26 #[.slice A0 l0.length c0,.int .i64 a1] w fun e w'=>e = .returned (.int .i64 r)∧Drawn0 w w':=by
 have HR0:=Qa hr0;have HC0:=Qa hc0;clear hr0 hc0;have H : (if (wrap64 (a1 - (l0.length : Int))) < 0 then (some (-1)) else (some (wrap64 (a1 - (l0.length : Int))))) = some r:=h;clear h
 by_cases c3 : (wrap64 (a1 - (l0.length : Int))) < 0
 ·rw [if_pos c3] at H;have c3b0 : decide ((wrap64 (a1 - (l0.length : Int))) < 0) = true:=QG c3;clear c3;obtain rfl:=QL H;go_enter Try.func26,Try.ntmps26;go_wp2;go_ret;exact ⟨sf1_,by repeat (first|exact Drawn0.refl _|apply Drawn0.step)⟩
 ·rw [if_neg c3] at H;have c3b0 : decide ((wrap64 (a1 - (l0.length : Int))) < 0) = false:=QH c3;clear c3;obtain rfl:=QL H;go_enter Try.func26,Try.ntmps26;go_wp2;go_ret;exact ⟨sf1_,by repeat (first|exact Drawn0.refl _|apply Drawn0.step)⟩

/-! ### spec_l1In: function 47 -/
def spec_l1In.f (a0 : Int) (a1 : Int) (a2 : Int) : Option (Bool):=if a0 ≥ a1 then (some (decide (a0 ≤ a2))) else (some false)
set_option maxHeartbeats 8000000 in
set_option maxRecDepth 100000 in
theorem spec_l1In.calls (a0 : Int) (a1 : Int) (a2 : Int) (r : Bool) (w : World) (h : spec_l1In.f a0 a1 a2 = some r) :
  Calls Try.prog 47 #[.int .i64 a0,.int .i64 a1,.int .i64 a2] w fun e w'=>e = .returned (.bool r)∧Drawn0 w w':=by
 have H : (if a0 ≥ a1 then (some (decide (a0 ≤ a2))) else (some false)) = some r:=h;clear h
 by_cases c4 : a0 ≥ a1
 ·rw [if_pos c4] at H;have c4b0 : decide (a1 ≤ a0) = true:=QG c4;clear c4;obtain rfl:=QL H;go_enter Try.func47,Try.ntmps47;go_wp2;go_ret;exact ⟨sf1_,by repeat (first|exact Drawn0.refl _|apply Drawn0.step)⟩
 ·rw [if_neg c4] at H;have c4b0 : decide (a1 ≤ a0) = false:=QH c4;clear c4;obtain rfl:=QL H;go_enter Try.func47,Try.ntmps47;go_wp2;go_ret;exact ⟨sf1_,by repeat (first|exact Drawn0.refl _|apply Drawn0.step)⟩

/-! ### spec_l5Used: function 63 -/
def spec_l5Used.f (l0 : List Int) (a1 : Int) : Option (Bool):=if 0 ≤ (wrap64 (Int.tdiv a1 8)) then (if (wrap64 (Int.tdiv a1 8)) < (l0.length : Int) then (if 0 ≤ (IntKind.u64.wrap (Int.tmod a1 8)) then (some ((Go.bits .and .u8 (shr .u8 (rd l0 (wrap64 (Int.tdiv a1 8))) (IntKind.u64.wrap (Int.tmod a1 8))) 1) == 1)) else (none)) else (none)) else (none)
set_option maxHeartbeats 8000000 in
set_option maxRecDepth 100000 in
theorem spec_l5Used.calls (A0 : Option Addr) (c0 : Nat) (l0 : List Int) (a1 : Int) (r : Bool) (w : World) (hr0 : Kd.C (Kd.int .u8) w A0 l0.length l0) (hc0 : l0.length ≤ c0) (h : spec_l5Used.f l0 a1 = some r) :
  Calls Try.prog 63 #[.slice A0 l0.length c0,.int .i64 a1] w fun e w'=>e = .returned (.bool r)∧Drawn0 w w':=by
 have HR0:=Qa hr0;have HC0:=Qa hc0;clear hr0 hc0;have H : (if 0 ≤ (wrap64 (Int.tdiv a1 8)) then (if (wrap64 (Int.tdiv a1 8)) < (l0.length : Int) then (if 0 ≤ (IntKind.u64.wrap (Int.tmod a1 8)) then (some ((Go.bits .and .u8 (shr .u8 (rd l0 (wrap64 (Int.tdiv a1 8))) (IntKind.u64.wrap (Int.tmod a1 8))) 1) == 1)) else (none)) else (none)) else (none)) = some r:=h;clear h;obtain ⟨ji3,hji3⟩ : ∃ j_ : Int,(wrap64 (Int.tdiv a1 8)) = j_:=⟨_,rfl⟩;(replace H : (if 0 ≤ (ji3) then (if (ji3) < (l0.length : Int) then (if 0 ≤ (IntKind.u64.wrap (Int.tmod a1 8)) then (some ((Go.bits .and .u8 (shr .u8 (rd l0 (ji3)) (IntKind.u64.wrap (Int.tmod a1 8))) 1) == 1)) else (none)) else (none)) else (none)) = some r:=by first|(rw [hji3] at H;exact H)|(simp only [hji3] at H ⊢;exact H));have hji3w : (IntKind.i64.wrap (Int.tdiv a1 8)) = ji3:=(i64_w _).trans hji3
 by_cases c4 : 0 ≤ (ji3)
 ·rw [if_pos c4] at H;have c4b0 : decide (0 ≤ (ji3)) = true:=QG c4;clear c4
  by_cases c5 : (ji3) < (l0.length : Int)
  ·rw [if_pos c5] at H;have c5b0 : decide ((ji3) < (l0.length : Int)) = true:=QG c5;clear c5;obtain ⟨ji6,hji6⟩ : ∃ j_ : Int,(IntKind.u64.wrap (Int.tmod a1 8)) = j_:=⟨_,rfl⟩;(replace H : (if 0 ≤ (ji6) then (some ((Go.bits .and .u8 (shr .u8 (rd l0 (ji3)) (ji6)) 1) == 1)) else (none)) = some r:=by first|(rw [hji6] at H;exact H)|(simp only [hji6] at H ⊢;exact H))
   by_cases c7 : 0 ≤ (ji6)
   ·rw [if_pos c7] at H;have c7b0:=eq_true c7;have c7b1 : decide (0 ≤ (ji6)) = true:=QG c7;clear c7;obtain ⟨ji8,hji8⟩ : ∃ j_ : Int,(shr .u8 (rd l0 (ji3)) (ji6)) = j_:=⟨_,rfl⟩;(replace H : (some ((Go.bits .and .u8 (ji8) 1) == 1)) = some r:=by first|(rw [hji8] at H;exact H)|(simp only [hji8] at H ⊢;exact H));have hji8_ : ((rd l0 (ji3)) / 2 ^ min (ji6).toNat 8) = ji8:=hji8;have hji8z : (ji6) ≤ 8 → ((rd l0 (ji3)) / 2 ^ (ji6).toNat) = ji8:=shr_small hji8;obtain rfl:=QL H;have p159 : 0 ≤ ((ji3) : Int):=QF (by assumption);have q159 : (ji3) < (l0.length : Int):=QF (by assumption);obtain ⟨ad159,e159,hx159_0⟩:=Kd.at_int HR0.o (ji3) p159 q159;cases e159;replace p159:=eq_true p159;replace q159:=eq_true q159;go_enter Try.func63,Try.ntmps63;go_wp2;go_ret;exact ⟨by first|rfl|(simp;done)|(simp only [← hji3,← hji6,← hji8] <;> (first|rfl|simp))|(simp [*];done),by repeat (first|exact Drawn0.refl _|apply Drawn0.step)⟩
   ·rw [if_neg c7] at H;exact absurd H (by simp)
  ·rw [if_neg c5] at H;exact absurd H (by simp)
 ·rw [if_neg c4] at H;exact absurd H (by simp)

/-! ### spec_l5Has: function 86 -/
def spec_l5Has.l0 : Nat → Int → List Int → Int → Int → Option (Bool)
 | 0,_,_,_,_=>none
 | k + 1,x1,x7,x8,x9=>if x9 < x8 then (if 0 ≤ x9 then (if x9 < (x7.length : Int) then (if (rd x7 x9) = x1 then (some true) else (spec_l5Has.l0 k x1 x7 x8 (wrap64 (x9 + 1)))) else (none)) else (none)) else (some false)
def spec_l5Has.f (k : Nat) (l0 : List Int) (a1 : Int) : Option (Bool):=spec_l5Has.l0 k a1 l0 (l0.length : Int) 0
theorem spec_l5Has.mono_l : ∀ k,(∀ y0 y1 y2 y3,LeO (spec_l5Has.l0 k y0 y1 y2 y3) (spec_l5Has.l0 (k + 1) y0 y1 y2 y3))
 | 0=>fun _ _ _ _ r h=>by simp [spec_l5Has.l0] at h
 | k + 1=>by
  have ih0:=spec_l5Has.mono_l k
  ·intro y0 y1 y2 y3;unfold spec_l5Has.l0
   repeat' first|(with_reducible first|exact ih0 _ _ _ _|exact LeO.refl _|exact LeO.none _|refine LeO.ite ?_ ?_|refine LeO.bind ?_ (fun _=>?_))|exact ih0 _ _ _ _|exact LeO.none _|refine LeO.ite ?_ ?_|refine LeO.bind ?_ (fun _=>?_)
theorem spec_l5Has.mono : ∀ a0 a1 k,LeO (spec_l5Has.f k a0 a1) (spec_l5Has.f (k + 1) a0 a1):=by
 intro a0 a1 k;have ih0:=spec_l5Has.mono_l k;unfold spec_l5Has.f
 repeat' first|(with_reducible first|exact ih0 _ _ _ _|exact LeO.refl _|exact LeO.none _|refine LeO.ite ?_ ?_|refine LeO.bind ?_ (fun _=>?_))|exact ih0 _ _ _ _|exact LeO.none _|refine LeO.ite ?_ ?_|refine LeO.bind ?_ (fun _=>?_)
set_option maxHeartbeats 8000000 in
set_option maxRecDepth 100000 in
theorem spec_l5Has.calls (k : Nat) (A0 : Option Addr) (c0 : Nat) (l0 : List Int) (a1 : Int) (r : Bool) (w : World) (hr0 : Kd.C (Kd.int .i64) w A0 l0.length l0) (hc0 : l0.length ≤ c0) (h : spec_l5Has.f k l0 a1 = some r) :
  Calls Try.prog 86 #[.slice A0 l0.length c0,.int .i64 a1] w fun e w'=>e = .returned (.bool r)∧Drawn0 w w':=by
 have HR0:=Qa hr0;have HC0:=Qa hc0;clear hr0 hc0;have H : (spec_l5Has.l0 k a1 l0 (l0.length : Int) 0) = some r:=h;clear h;have H':=Qa H;clear H;go_enter Try.func86,Try.ntmps86;go_wp2;go_loopg [9] k (fun kq v9 w'=>∃ (x9_1 : Int),v9 = .int .i64 x9_1∧Aside0 (spec_l5Has.l0 kq a1 l0 (l0.length : Int) x9_1 = some r)∧Aside0 (kq ≤ k)∧Drawn0 w w')
 case atStart=>exact ⟨(0),(sf1_),H',⟨QO _⟩,by repeat (first|exact Drawn0.refl _|apply Drawn0.step)⟩
 case round =>
  clear H';(try clear p2);obtain ⟨x9_1,rfl,HA,HK1,⟨m1,rfl⟩⟩:=hrel
  cases gk with
  | zero=>exact absurd HA.out (by simp [spec_l5Has.l0])
  | succ k1 =>
   have H:=HA.out;clear HA;simp only [spec_l5Has.l0] at H
   by_cases c3 : x9_1 < (l0.length : Int)
   ·rw [if_pos c3] at H;have c3b0 : decide (x9_1 < (l0.length : Int)) = true:=QG c3;clear c3
    by_cases c4 : 0 ≤ x9_1
    ·rw [if_pos c4] at H;have c4b0 : decide (0 ≤ x9_1) = true:=QG c4;clear c4
     by_cases c5 : x9_1 < (l0.length : Int)
     ·rw [if_pos c5] at H;have c5b0 : decide (x9_1 < (l0.length : Int)) = true:=QG c5;clear c5
      by_cases c6 : (rd l0 x9_1) = a1
      ·rw [if_pos c6] at H;have c6b0 : ((rd l0 x9_1) == a1) = true:=beq_iff_eq.mpr c6;have c6b1 : ((rd l0 x9_1) != a1) = false:=bne_eq_false_iff_eq.mpr c6;clear c6;obtain rfl:=QL H;have p160 : 0 ≤ (x9_1 : Int):=QF (by assumption);have q160 : x9_1 < (l0.length : Int):=QF (by assumption);obtain ⟨ad160,e160,hx160_0⟩:=Kd.at_int HR0.o x9_1 p160 q160;cases e160;replace p160:=eq_true p160;replace q160:=eq_true q160;go_wp2;go_ret;exact ⟨sf1_,by repeat (first|exact Drawn0.refl _|apply Drawn0.step)⟩
      ·rw [if_neg c6] at H;have c6b0 : ((rd l0 x9_1) == a1) = false:=beq_eq_false_iff_ne.mpr c6;have c6b1 : ((rd l0 x9_1) != a1) = true:=bne_iff_ne.mpr c6;have H':=Qa H;clear H;have p160 : 0 ≤ (x9_1 : Int):=QF (by assumption);have q160 : x9_1 < (l0.length : Int):=QF (by assumption);obtain ⟨ad160,e160,hx160_0⟩:=Kd.at_int HR0.o x9_1 p160 q160;cases e160;replace p160:=eq_true p160;replace q160:=eq_true q160;go_wp2;go_roundg k1
       case measure=>have:=HK1.o;omega
       case rel=>exact ⟨(wrap64 (x9_1 + 1)),(sf1_),H',⟨by have:=HK1.o;omega⟩,by repeat (first|exact Drawn0.refl _|apply Drawn0.step)⟩
     ·rw [if_neg c5] at H;exact absurd H (by simp)
    ·rw [if_neg c4] at H;exact absurd H (by simp)
   ·rw [if_neg c3] at H;have c3b0 : decide (x9_1 < (l0.length : Int)) = false:=QH c3;clear c3;obtain rfl:=QL H;go_wp2;go_ret;exact ⟨sf1_,by repeat (first|exact Drawn0.refl _|apply Drawn0.step)⟩

/-! ### spec_l5Live: function 73 -/
def spec_l5Live.f (k : Nat) (l0_0 : List (List Int)) (l0_1 : List Int) (l0_2 : List Int) (l0_3 : List Int) (a1 : Int) : Option (Bool):=(spec_l1In.f a1 33 (wrap64 ((l0_0.length : Int) - 1))).bind fun t162=>(if t162 = true then ((spec_l5Used.f l0_1 a1).bind fun t163=>(if t163 = true then ((spec_l5Has.f k l0_2 a1).bind fun t164=>(some (!t164))) else (some false))) else (some false))
theorem spec_l5Live.mono : ∀ a0 a1 a2 a3 a4 k,LeO (spec_l5Live.f k a0 a1 a2 a3 a4) (spec_l5Live.f (k + 1) a0 a1 a2 a3 a4):=by
 intro a0 a1 a2 a3 a4 k;unfold spec_l5Live.f
 repeat' first|(with_reducible first|exact spec_l5Has.mono _ _ _|exact LeO.refl _|exact LeO.none _|refine LeO.ite ?_ ?_|refine LeO.bind ?_ (fun _=>?_))|exact spec_l5Has.mono _ _ _|exact LeO.none _|refine LeO.ite ?_ ?_|refine LeO.bind ?_ (fun _=>?_)
set_option maxHeartbeats 8000000 in
set_option maxRecDepth 100000 in
theorem spec_l5Live.calls (k : Nat) (A0_0 : Option Addr) (c0_0 : Nat) (l0_0 : List (List Int)) (A0_1 : Option Addr) (c0_1 : Nat) (l0_1 : List Int) (A0_2 : Option Addr) (c0_2 : Nat) (l0_2 : List Int) (A0_3 : Option Addr) (c0_3 : Nat) (l0_3 : List Int) (a1 : Int) (r : Bool) (w : World) (hr0_0 : Kd.C (Kd.slice 5 (Kd.int .u8)) w A0_0 l0_0.length l0_0) (hc0_0 : l0_0.length ≤ c0_0) (hr0_1 : Kd.C (Kd.int .u8) w A0_1 l0_1.length l0_1) (hc0_1 : l0_1.length ≤ c0_1) (hr0_2 : Kd.C (Kd.int .i64) w A0_2 l0_2.length l0_2) (hc0_2 : l0_2.length ≤ c0_2) (hr0_3 : Kd.C (Kd.int .i64) w A0_3 l0_3.length l0_3) (hc0_3 : l0_3.length ≤ c0_3) (h : spec_l5Live.f k l0_0 l0_1 l0_2 l0_3 a1 = some r) :
  Calls Try.prog 73 #[.agg #[.slice A0_0 l0_0.length c0_0,.slice A0_1 l0_1.length c0_1,.slice A0_2 l0_2.length c0_2,.slice A0_3 l0_3.length c0_3],.int .i64 a1] w fun e w'=>e = .returned (.bool r)∧Below w.heap.size w w':=by
 have hu30:=Try.underlying30;have HR0_0:=Qa hr0_0;have HC0_0:=Qa hc0_0;clear hr0_0 hc0_0;have HR0_1:=Qa hr0_1;have HC0_1:=Qa hc0_1;clear hr0_1 hc0_1;have HR0_2:=Qa hr0_2;have HC0_2:=Qa hc0_2;clear hr0_2 hc0_2;have HR0_3:=Qa hr0_3;have HC0_3:=Qa hc0_3;clear hr0_3 hc0_3;have HB:=Qa (Below.refl w.heap.size w);have H : ((spec_l1In.f a1 33 (wrap64 ((l0_0.length : Int) - 1))).bind fun t162=>(if t162 = true then ((spec_l5Used.f l0_1 a1).bind fun t163=>(if t163 = true then ((spec_l5Has.f k l0_2 a1).bind fun t164=>(some (!t164))) else (some false))) else (some false))) = some r:=h;clear h;replace H:=QE H;obtain ⟨t162,A30,H⟩:=H;replace H : (if t162 = true then ((spec_l5Used.f l0_1 a1).bind fun t163=>(if t163 = true then ((spec_l5Has.f k l0_2 a1).bind fun t164=>(some (!t164))) else (some false))) else (some false)) = some r:=H;have A3:=Qa A30;clear A30
 by_cases c4 : t162 = true
 ·subst c4;(have H1 : ((spec_l5Used.f l0_1 a1).bind fun t163=>(if t163 = true then ((spec_l5Has.f k l0_2 a1).bind fun t164=>(some (!t164))) else (some false))) = some r:=by rw [if_pos rfl] at H;exact H);clear H;have H:=H1;clear H1;replace H:=QE H;obtain ⟨t163,A50,H⟩:=H;replace H : (if t163 = true then ((spec_l5Has.f k l0_2 a1).bind fun t164=>(some (!t164))) else (some false)) = some r:=H;have A5:=Qa A50;clear A50
  by_cases c6 : t163 = true
  ·subst c6;(have H1 : ((spec_l5Has.f k l0_2 a1).bind fun t164=>(some (!t164))) = some r:=by rw [if_pos rfl] at H;exact H);clear H;have H:=H1;clear H1;replace H:=QE H;obtain ⟨t164,A70,H⟩:=H;replace H : (some (!t164)) = some r:=H;have A7:=Qa A70;clear A70;obtain rfl:=QL H;go_enter Try.func73,Try.ntmps73;go_wp2_with (first|((with_reducible refine gate_dst (N:=2) rfl ?_);refine box_event ?hg (N:=2) ?hd (cs:=#[.slice A0_0 l0_0.length c0_0,.slice A0_1 l0_1.length c0_1,.slice A0_2 l0_2.length c0_2,.slice A0_3 l0_3.length c0_3]) (t:=30) ?hr ?_;(case hd=>rfl);(case hg=>rfl);(case hr=>first|(go_simp;done)|(go_simp;rfl));intro gb161 hg w8 hbox hb;have n0_:=Qa (Ql (bg0_) hb);have n1_:=Qa (hbox);have n2_:=Qa ((by rw [hg];exact (Qm (bg0_)) : w.heap.size ≤ gb161));have n3_:=Qa ((by rw [hg];exact (Qm (bg0_)) : w.heap.size ≤ gb161));clear HB;have HB:=n0_;have BK161:=n1_;have GW161:=n2_;have GE161:=n3_;clear n0_ n1_ n2_ n3_;clear hb hbox hg;have hcz9_0 : w8.cell? ⟨gb161,0,none⟩ = some (.slice A0_0 l0_0.length c0_0):=(Qb BK161.o 0).trans rfl;have hcz9_1 : w8.cell? ⟨gb161,1,none⟩ = some (.slice A0_1 l0_1.length c0_1):=(Qb BK161.o 1).trans rfl;have hcz9_2 : w8.cell? ⟨gb161,2,none⟩ = some (.slice A0_2 l0_2.length c0_2):=(Qb BK161.o 2).trans rfl;have hcz9_3 : w8.cell? ⟨gb161,3,none⟩ = some (.slice A0_3 l0_3.length c0_3):=(Qb BK161.o 3).trans rfl;have hfz9_0:=Qc BK161.o 0;have hfz9_1:=Qc BK161.o 1;have hfz9_2:=Qc BK161.o 2;have hfz9_3:=Qc BK161.o 3)|((with_reducible refine gate_callee (f:=47) rfl ?_);refine goesL_ (some 10) rfl rfl Try.func47 (by kernel_rfl) rfl #[.int .i64 a1,.int .i64 33,.int .i64 (wrap64 ((l0_0.length : Int) - 1))] rfl (sf0_) ?_;(with_reducible refine (spec_l1In.calls a1 33 (wrap64 ((l0_0.length : Int) - 1)) true _ A3.o).mono ?_);rintro e w' ⟨rfl,⟨nd,rfl⟩⟩;refine ⟨_,rfl,?_⟩)|(go_at_call 63;(with_reducible refine (spec_l5Used.calls _ _ l0_1 a1 true _ ?side1 ?side2 A5.o).mono ?_);(case side1=>repeat (first|exact (Qn HR0_1.o (b161_))|(with_reducible first|apply Qo|apply Qp|apply Qq)));(case side2=>exact HC0_1.o);rintro e w' ⟨rfl,⟨nd,rfl⟩⟩)|(go_at_call 86;(with_reducible refine (spec_l5Has.calls k _ _ l0_2 a1 t164 _ ?side1 ?side2 A7.o).mono ?_);(case side1=>repeat (first|exact (Qn HR0_2.o (b161_))|(with_reducible first|apply Qo|apply Qp|apply Qq)));(case side2=>exact HC0_2.o);rintro e w' ⟨rfl,⟨nd,rfl⟩⟩));go_ret;exact ⟨sf2_,b161_⟩
  ·replace c6:=QM c6;subst c6;(have H1 : (some false) = some r:=by rw [if_neg (show ¬ (false = true) by decide)] at H;exact H);clear H;have H:=H1;clear H1;obtain rfl:=QL H;go_enter Try.func73,Try.ntmps73;go_wp2_with (first|((with_reducible refine gate_dst (N:=2) rfl ?_);refine box_event ?hg (N:=2) ?hd (cs:=#[.slice A0_0 l0_0.length c0_0,.slice A0_1 l0_1.length c0_1,.slice A0_2 l0_2.length c0_2,.slice A0_3 l0_3.length c0_3]) (t:=30) ?hr ?_;(case hd=>rfl);(case hg=>rfl);(case hr=>first|(go_simp;done)|(go_simp;rfl));intro gb161 hg w10 hbox hb;have n0_:=Qa (Ql (bg0_) hb);have n1_:=Qa (hbox);have n2_:=Qa ((by rw [hg];exact (Qm (bg0_)) : w.heap.size ≤ gb161));have n3_:=Qa ((by rw [hg];exact (Qm (bg0_)) : w.heap.size ≤ gb161));clear HB;have HB:=n0_;have BK161:=n1_;have GW161:=n2_;have GE161:=n3_;clear n0_ n1_ n2_ n3_;clear hb hbox hg;have hcz11_0 : w10.cell? ⟨gb161,0,none⟩ = some (.slice A0_0 l0_0.length c0_0):=(Qb BK161.o 0).trans rfl;have hcz11_1 : w10.cell? ⟨gb161,1,none⟩ = some (.slice A0_1 l0_1.length c0_1):=(Qb BK161.o 1).trans rfl;have hcz11_2 : w10.cell? ⟨gb161,2,none⟩ = some (.slice A0_2 l0_2.length c0_2):=(Qb BK161.o 2).trans rfl;have hcz11_3 : w10.cell? ⟨gb161,3,none⟩ = some (.slice A0_3 l0_3.length c0_3):=(Qb BK161.o 3).trans rfl;have hfz11_0:=Qc BK161.o 0;have hfz11_1:=Qc BK161.o 1;have hfz11_2:=Qc BK161.o 2;have hfz11_3:=Qc BK161.o 3)|((with_reducible refine gate_callee (f:=47) rfl ?_);refine goesL_ (some 10) rfl rfl Try.func47 (by kernel_rfl) rfl #[.int .i64 a1,.int .i64 33,.int .i64 (wrap64 ((l0_0.length : Int) - 1))] rfl (sf0_) ?_;(with_reducible refine (spec_l1In.calls a1 33 (wrap64 ((l0_0.length : Int) - 1)) true _ A3.o).mono ?_);rintro e w' ⟨rfl,⟨nd,rfl⟩⟩;refine ⟨_,rfl,?_⟩)|(go_at_call 63;(with_reducible refine (spec_l5Used.calls _ _ l0_1 a1 false _ ?side1 ?side2 A5.o).mono ?_);(case side1=>repeat (first|exact (Qn HR0_1.o (b161_))|(with_reducible first|apply Qo|apply Qp|apply Qq)));(case side2=>exact HC0_1.o);rintro e w' ⟨rfl,⟨nd,rfl⟩⟩));go_ret;exact ⟨sf2_,b161_⟩
 ·replace c4:=QM c4;subst c4;(have H1 : (some false) = some r:=by rw [if_neg (show ¬ (false = true) by decide)] at H;exact H);clear H;have H:=H1;clear H1;obtain rfl:=QL H;go_enter Try.func73,Try.ntmps73;go_wp2_with (first|((with_reducible refine gate_dst (N:=2) rfl ?_);refine box_event ?hg (N:=2) ?hd (cs:=#[.slice A0_0 l0_0.length c0_0,.slice A0_1 l0_1.length c0_1,.slice A0_2 l0_2.length c0_2,.slice A0_3 l0_3.length c0_3]) (t:=30) ?hr ?_;(case hd=>rfl);(case hg=>rfl);(case hr=>first|(go_simp;done)|(go_simp;rfl));intro gb161 hg w12 hbox hb;have n0_:=Qa (Ql (bg0_) hb);have n1_:=Qa (hbox);have n2_:=Qa ((by rw [hg];exact (Qm (bg0_)) : w.heap.size ≤ gb161));have n3_:=Qa ((by rw [hg];exact (Qm (bg0_)) : w.heap.size ≤ gb161));clear HB;have HB:=n0_;have BK161:=n1_;have GW161:=n2_;have GE161:=n3_;clear n0_ n1_ n2_ n3_;clear hb hbox hg;have hcz13_0 : w12.cell? ⟨gb161,0,none⟩ = some (.slice A0_0 l0_0.length c0_0):=(Qb BK161.o 0).trans rfl;have hcz13_1 : w12.cell? ⟨gb161,1,none⟩ = some (.slice A0_1 l0_1.length c0_1):=(Qb BK161.o 1).trans rfl;have hcz13_2 : w12.cell? ⟨gb161,2,none⟩ = some (.slice A0_2 l0_2.length c0_2):=(Qb BK161.o 2).trans rfl;have hcz13_3 : w12.cell? ⟨gb161,3,none⟩ = some (.slice A0_3 l0_3.length c0_3):=(Qb BK161.o 3).trans rfl;have hfz13_0:=Qc BK161.o 0;have hfz13_1:=Qc BK161.o 1;have hfz13_2:=Qc BK161.o 2;have hfz13_3:=Qc BK161.o 3)|((with_reducible refine gate_callee (f:=47) rfl ?_);refine goesL_ (some 10) rfl rfl Try.func47 (by kernel_rfl) rfl #[.int .i64 a1,.int .i64 33,.int .i64 (wrap64 ((l0_0.length : Int) - 1))] rfl (sf0_) ?_;(with_reducible refine (spec_l1In.calls a1 33 (wrap64 ((l0_0.length : Int) - 1)) false _ A3.o).mono ?_);rintro e w' ⟨rfl,⟨nd,rfl⟩⟩;refine ⟨_,rfl,?_⟩));go_ret;exact ⟨sf2_,b161_⟩

end Go.Proofs.Ytcdlookokffkeaa.PFnExactNeedForKeys
