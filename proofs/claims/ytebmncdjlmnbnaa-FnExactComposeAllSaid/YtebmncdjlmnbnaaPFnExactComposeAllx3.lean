-- Written by a program of this session over the print of the kit (wip/t/patch_print.py).
import Derived.Test.YtebmncdjlmnbnaaPFnExactComposeAllx0
import Derived.Test.YtebmncdjlmnbnaaPFnExactComposeAllx2
namespace Go.Proofs.Ytebmncdjlmnbnaa.PFnExactComposeAll
open Go.RowKit Go.Proofs.YtebmncdjlmnbnaaW.PrintWords Go.Proofs.YtebmncdjlmnbnaaW.PrintLast Go.Proofs.YtebmncdjlmnbnaaW.PrintMore
attribute [local go_sem] max2_int min2_int max_two min_two max_three min_three max_four min_four   -- for this text's walks alone
set_option linter.unusedVariables false
set_option linter.unusedSimpArgs false

/-! ### laws_heldPartS: function 35 -/
def laws_heldPartS.l0 : Nat → List (S74) → Int → Int → Option (Int)
 | 0,_,_,_=>none
 | k + 1,x0,x1,x5=>if x5 < (x0.length : Int) then (if 0 ≤ x5 then (if ((rd_T74 x0 x5).f0) = x1 then (if ((rd_T74 x0 x5).f1) = (wrap64 (x1 + 1)) then ((laws_markText.f k (wrap64 ((wrap64 (x1 + 1)) + 1))).bind fun t116=>(if ((rd_T74 x0 x5).f2).toList = t116.toList then (laws_heldPartS.l0 k x0 (wrap64 ((wrap64 ((wrap64 (x1 + 1)) + 1)) + 1)) (wrap64 (x5 + 1))) else (some (-1)))) else (some (-1))) else (some (-1))) else (none)) else (some x1)
def laws_heldPartS.f (k : Nat) (l0 : List (S74)) (a1 : Int) : Option (Int):=laws_heldPartS.l0 k l0 a1 0
theorem laws_heldPartS.mono_l : ∀ k,(∀ y0 y1 y2,LeO (laws_heldPartS.l0 k y0 y1 y2) (laws_heldPartS.l0 (k + 1) y0 y1 y2))
 | 0=>fun _ _ _ r h=>by simp [laws_heldPartS.l0] at h
 | k + 1=>by
  have ih0:=laws_heldPartS.mono_l k
  ·intro y0 y1 y2;unfold laws_heldPartS.l0
   repeat' first|(with_reducible first|exact ih0 _ _ _|exact laws_markText.mono _ _|exact LeO.refl _|exact LeO.none _|refine LeO.ite ?_ ?_|refine LeO.bind ?_ (fun _=>?_))|exact ih0 _ _ _|exact laws_markText.mono _ _|exact LeO.none _|refine LeO.ite ?_ ?_|refine LeO.bind ?_ (fun _=>?_)
theorem laws_heldPartS.mono : ∀ a0 a1 k,LeO (laws_heldPartS.f k a0 a1) (laws_heldPartS.f (k + 1) a0 a1):=by
 intro a0 a1 k;have ih0:=laws_heldPartS.mono_l k;unfold laws_heldPartS.f
 repeat' first|(with_reducible first|exact ih0 _ _ _|exact laws_markText.mono _ _|exact LeO.refl _|exact LeO.none _|refine LeO.ite ?_ ?_|refine LeO.bind ?_ (fun _=>?_))|exact ih0 _ _ _|exact laws_markText.mono _ _|exact LeO.none _|refine LeO.ite ?_ ?_|refine LeO.bind ?_ (fun _=>?_)
def laws_heldPartS.T10 : Bool × List (List Nat × List Nat):=(true,[([],[]),([],[]),([0,1],[0,1]),([2],[2]),([3],[3]),([],[]),([5],[5]),([4,6],[4,6])])
def laws_heldPartS.B10 : List Nat:=[0,0,3,7,15,0,32,127]
theorem laws_heldPartS.tab10 : rtab .any (opsOf Try.f35 10) = laws_heldPartS.T10:=by kernel_rfl
theorem laws_heldPartS.bits10 : waitsOk laws_heldPartS.T10.2 laws_heldPartS.B10 = true:=by kernel_rfl
set_option maxHeartbeats 8000000 in
set_option maxRecDepth 100000 in
theorem laws_heldPartS.calls (k : Nat) (A0 : Option Addr) (c0 : Nat) (l0 : List (S74)) (a1 : Int) (r : Int) (w : World) (hr0 : Kd.C k74 w A0 l0.length l0) (hc0 : l0.length ≤ c0) (h : laws_heldPartS.f k l0 a1 = some r) :
  Calls Try.prog 35 #[.slice A0 l0.length c0,.int .i64 a1] w fun e w'=>e = .returned (.int .i64 r)∧Below w.heap.size w w':=by
 have HR0:=Qa hr0;have HC0:=Qa hc0;clear hr0 hc0;have HB:=Qa (Below.refl w.heap.size w);have H : (laws_heldPartS.l0 k l0 a1 0) = some r:=h;clear h;have H':=Qa H;clear H;go_enter Try.func35,Try.ntmps35;go_wp2;go_loopg [1,5] k (fun kq v1 v5 w'=>∃ (x1_1 : Int) (x5_1 : Int),v1 = .int .i64 x1_1∧v5 = .int .i64 x5_1∧Aside0 (laws_heldPartS.l0 kq l0 x1_1 x5_1 = some r)∧Aside0 (kq ≤ k)∧Aside0 (Below w.heap.size w w'))
 case atStart=>exact ⟨(a1),(0),(sf1_),(sf1_),H',⟨QN _⟩,⟨bg0_⟩⟩
 case round =>
  clear H';(try clear p2);obtain ⟨x1_1,x5_1,rfl,rfl,HA,HK1,HB⟩:=hrel
  cases gk with
  | zero=>exact absurd HA.out (by simp [laws_heldPartS.l0])
  | succ k1 =>
   have H:=HA.out;clear HA;simp only [laws_heldPartS.l0] at H
   by_cases c3 : x5_1 < (l0.length : Int)
   ·rw [if_pos c3] at H;have c3b0 : decide (x5_1 < (l0.length : Int)) = true:=QC c3;clear c3
    by_cases c4 : 0 ≤ x5_1
    ·rw [if_pos c4] at H;have c4b0 : decide (0 ≤ x5_1) = true:=QC c4;clear c4
     by_cases c5 : ((rd_T74 l0 x5_1).f0) = x1_1
     ·rw [if_pos c5] at H;have c5b0 : (((rd_T74 l0 x5_1).f0) == x1_1) = true:=beq_iff_eq.mpr c5;have c5b1 : (((rd_T74 l0 x5_1).f0) != x1_1) = false:=bne_eq_false_iff_eq.mpr c5;clear c5
      by_cases c6 : ((rd_T74 l0 x5_1).f1) = (wrap64 (x1_1 + 1))
      ·rw [if_pos c6] at H;have c6b0 : (((rd_T74 l0 x5_1).f1) == (wrap64 (x1_1 + 1))) = true:=beq_iff_eq.mpr c6;have c6b1 : (((rd_T74 l0 x5_1).f1) != (wrap64 (x1_1 + 1))) = false:=bne_eq_false_iff_eq.mpr c6;clear c6;replace H:=QA H;obtain ⟨t116,A70,H⟩:=H;replace H : (if ((rd_T74 l0 x5_1).f2).toList = t116.toList then (laws_heldPartS.l0 k1 l0 (wrap64 ((wrap64 ((wrap64 (x1_1 + 1)) + 1)) + 1)) (wrap64 (x5_1 + 1))) else (some (-1))) = some r:=H;have A7:=Qa A70;clear A70
       by_cases c8 : ((rd_T74 l0 x5_1).f2).toList = t116.toList
       ·rw [if_pos c8] at H;have c8b0 : (((rd_T74 l0 x5_1).f2).toList == t116.toList) = true:=beq_iff_eq.mpr c8;have c8b1 : (((rd_T74 l0 x5_1).f2).toList != t116.toList) = false:=bne_eq_false_iff_eq.mpr c8;clear c8;have H':=Qa H;clear H;have p113 : 0 ≤ (x5_1 : Int):=QB (by assumption);have q113 : x5_1 < (l0.length : Int):=QB (by assumption);obtain ⟨ad113,e113,hx113_0,hx113_1,hx113_2⟩:=at_T74 HR0.o x5_1 p113 q113;cases e113;(try replace hx113_0:=(HB.o.cell (World.block_lt_of_cell? w _ hx113_0)).trans hx113_0);(try replace hx113_1:=(HB.o.cell (World.block_lt_of_cell? w _ hx113_1)).trans hx113_1);(try replace hx113_2:=(HB.o.cell (World.block_lt_of_cell? w _ hx113_2)).trans hx113_2);replace p113:=eq_true p113;replace q113:=eq_true q113;have p114 : 0 ≤ (x5_1 : Int):=QB (by assumption);have q114 : x5_1 < (l0.length : Int):=QB (by assumption);obtain ⟨ad114,e114,hx114_0,hx114_1,hx114_2⟩:=at_T74 HR0.o x5_1 p114 q114;obtain rfl : ad113 = ad114:=(by injection e114);(try replace hx114_0:=(HB.o.cell (World.block_lt_of_cell? w _ hx114_0)).trans hx114_0);(try replace hx114_1:=(HB.o.cell (World.block_lt_of_cell? w _ hx114_1)).trans hx114_1);(try replace hx114_2:=(HB.o.cell (World.block_lt_of_cell? w _ hx114_2)).trans hx114_2);replace p114:=eq_true p114;replace q114:=eq_true q114;(try go_wp2);have n0_:=Qa (Qj HB.o);clear HB;have HB:=n0_;clear n0_;have p115 : 0 ≤ (x5_1 : Int):=QB (by assumption);have q115 : x5_1 < (l0.length : Int):=QB (by assumption);obtain ⟨ad115,e115,hx115_0,hx115_1,hx115_2⟩:=at_T74 HR0.o x5_1 p115 q115;have hw115_2:=hx115_2;have hw115_1:=hx115_1;have hw115_0:=hx115_0;obtain rfl : ad113 = ad115:=(by injection e115);(try replace hx115_0:=(HB.o.cell (World.block_lt_of_cell? w _ hx115_0)).trans hx115_0);(try replace hx115_1:=(HB.o.cell (World.block_lt_of_cell? w _ hx115_1)).trans hx115_1);(try replace hx115_2:=(HB.o.cell (World.block_lt_of_cell? w _ hx115_2)).trans hx115_2);replace p115:=eq_true p115;replace q115:=eq_true q115;refine start_ (n:=8) (S:=fun w'=>w'.cell? (ad113.add ((x5_1).toNat * 3)) = some (.int .i64 ((rd_T74 l0 x5_1).f0))∧w'.cell? ⟨(ad113.add ((x5_1).toNat * 3)).block,(ad113.add ((x5_1).toNat * 3)).off + 1,none⟩ = some (.int .i64 ((rd_T74 l0 x5_1).f1))∧w'.cell? ⟨(ad113.add ((x5_1).toNat * 3)).block,(ad113.add ((x5_1).toNat * 3)).off + 2,none⟩ = some (.string ((rd_T74 l0 x5_1).f2))) (ds:=[]) m30_ (by kernel_rfl) rfl rfl ⟨((HB.o.cell (World.block_lt_of_cell? w _ hw115_0)).trans hw115_0),((HB.o.cell (World.block_lt_of_cell? w _ hw115_1)).trans hw115_1),((HB.o.cell (World.block_lt_of_cell? w _ hw115_2)).trans hw115_2)⟩ (fun hHeld=>?_);refine with_tabW laws_heldPartS.tab10 laws_heldPartS.bits10 (fun HT_ HW_=>?_)
        generalize wr.drew = w9 at HB hx115_0 hx115_1 hx115_2 hHeld ⊢
        refine pp_ 0 30 m31_ rfl rfl HT_.out ?_;refine pp_ 1 31 #[true,true,false,false,false,false,false,false] rfl rfl HT_.out ?_;refine pp_ 2 32 m32_ rfl rfl HT_.out ?_;refine pp_ 3 33 m33_ rfl rfl HT_.out ?_;refine pp_ 5 35 #[true,true,true,true,false,true,false,false] rfl rfl HT_.out ?_;refine take_ (i:=4) (N:=some 34) (v:=?_) (a':=?_) m34_ rfl rfl (take_ofW HT_.out HW_.out (by kernel_rfl)) (fun _ _ _ h=>h) (Or.inl ⟨by rfl,?_⟩) hHeld ?_ ?_;rotate_left
        ·rintro w' ⟨s0,s1,s2⟩;go_simp
         with_reducible rfl
        rotate_left
        ·simp only [Act.put,QE,QF,QG,i64_w,i32_w];rfl
        refine one_ (i:=6) (N:=some 36) m35_ rfl rfl (one_of HT_.out (by kernel_rfl)) (by decide) (fun K hK=>?_);refine goes_ Try.func71 (by kernel_rfl) rfl #[.int .i64 (wrap64 ((wrap64 (x1_1 + 1)) + 1))] (by rfl) rfl rfl (sf0_) ?_
        with_reducible refine (laws_markText.calls k1 (wrap64 ((wrap64 (x1_1 + 1)) + 1)) t116 _ A7.o).mono ?_
        rintro e w10 ⟨rfl,hb⟩;refine ⟨_,rfl,?_⟩;have n0_:=Qa (Qm (bg0_) hb);clear HB;have HB:=n0_;clear n0_;(try clear hb);(try clear hb2);(try clear hk);(try clear hi);refine hK.out _ _ ⟨((HB.o.cell (World.block_lt_of_cell? w _ hw115_0)).trans hw115_0),((HB.o.cell (World.block_lt_of_cell? w _ hw115_1)).trans hw115_1),((HB.o.cell (World.block_lt_of_cell? w _ hw115_2)).trans hw115_2)⟩ (fun hHeld=>?_);clear hK K;refine norm_ (a':=?_) ?_ ?_;rotate_left
        ·(show Act.put _ (some 36) _ = _);simp only [Act.put,QE,QF,QG,i64_w,i32_w];rfl
        refine pp_ 7 37 m36_ rfl rfl HT_.out ?_;refine done_ (done_of HT_.out (by kernel_rfl)) ?_;(try go_wp2);go_roundg k1
        case measure=>have:=HK1.o;omega
        case rel=>exact ⟨(wrap64 ((wrap64 ((wrap64 (x1_1 + 1)) + 1)) + 1)),(wrap64 (x5_1 + 1)),(sf1_),(sf1_),H',⟨by have:=HK1.o;omega⟩,⟨bg0_⟩⟩
       ·rw [if_neg c8] at H;have c8b0 : (((rd_T74 l0 x5_1).f2).toList == t116.toList) = false:=beq_eq_false_iff_ne.mpr c8;have c8b1 : (((rd_T74 l0 x5_1).f2).toList != t116.toList) = true:=bne_iff_ne.mpr c8;obtain rfl:=QK H;have p113 : 0 ≤ (x5_1 : Int):=QB (by assumption);have q113 : x5_1 < (l0.length : Int):=QB (by assumption);obtain ⟨ad113,e113,hx113_0,hx113_1,hx113_2⟩:=at_T74 HR0.o x5_1 p113 q113;cases e113;(try replace hx113_0:=(HB.o.cell (World.block_lt_of_cell? w _ hx113_0)).trans hx113_0);(try replace hx113_1:=(HB.o.cell (World.block_lt_of_cell? w _ hx113_1)).trans hx113_1);(try replace hx113_2:=(HB.o.cell (World.block_lt_of_cell? w _ hx113_2)).trans hx113_2);replace p113:=eq_true p113;replace q113:=eq_true q113;have p114 : 0 ≤ (x5_1 : Int):=QB (by assumption);have q114 : x5_1 < (l0.length : Int):=QB (by assumption);obtain ⟨ad114,e114,hx114_0,hx114_1,hx114_2⟩:=at_T74 HR0.o x5_1 p114 q114;obtain rfl : ad113 = ad114:=(by injection e114);(try replace hx114_0:=(HB.o.cell (World.block_lt_of_cell? w _ hx114_0)).trans hx114_0);(try replace hx114_1:=(HB.o.cell (World.block_lt_of_cell? w _ hx114_1)).trans hx114_1);(try replace hx114_2:=(HB.o.cell (World.block_lt_of_cell? w _ hx114_2)).trans hx114_2);replace p114:=eq_true p114;replace q114:=eq_true q114;(try go_wp2);have n0_:=Qa (Qj HB.o);clear HB;have HB:=n0_;clear n0_;have p115 : 0 ≤ (x5_1 : Int):=QB (by assumption);have q115 : x5_1 < (l0.length : Int):=QB (by assumption);obtain ⟨ad115,e115,hx115_0,hx115_1,hx115_2⟩:=at_T74 HR0.o x5_1 p115 q115;have hw115_2:=hx115_2;have hw115_1:=hx115_1;have hw115_0:=hx115_0;obtain rfl : ad113 = ad115:=(by injection e115);(try replace hx115_0:=(HB.o.cell (World.block_lt_of_cell? w _ hx115_0)).trans hx115_0);(try replace hx115_1:=(HB.o.cell (World.block_lt_of_cell? w _ hx115_1)).trans hx115_1);(try replace hx115_2:=(HB.o.cell (World.block_lt_of_cell? w _ hx115_2)).trans hx115_2);replace p115:=eq_true p115;replace q115:=eq_true q115;refine start_ (n:=8) (S:=fun w'=>w'.cell? (ad113.add ((x5_1).toNat * 3)) = some (.int .i64 ((rd_T74 l0 x5_1).f0))∧w'.cell? ⟨(ad113.add ((x5_1).toNat * 3)).block,(ad113.add ((x5_1).toNat * 3)).off + 1,none⟩ = some (.int .i64 ((rd_T74 l0 x5_1).f1))∧w'.cell? ⟨(ad113.add ((x5_1).toNat * 3)).block,(ad113.add ((x5_1).toNat * 3)).off + 2,none⟩ = some (.string ((rd_T74 l0 x5_1).f2))) (ds:=[]) m30_ (by kernel_rfl) rfl rfl ⟨((HB.o.cell (World.block_lt_of_cell? w _ hw115_0)).trans hw115_0),((HB.o.cell (World.block_lt_of_cell? w _ hw115_1)).trans hw115_1),((HB.o.cell (World.block_lt_of_cell? w _ hw115_2)).trans hw115_2)⟩ (fun hHeld=>?_);refine with_tabW laws_heldPartS.tab10 laws_heldPartS.bits10 (fun HT_ HW_=>?_)
        generalize wr.drew = w11 at HB hx115_0 hx115_1 hx115_2 hHeld ⊢
        refine pp_ 0 30 m31_ rfl rfl HT_.out ?_;refine pp_ 1 31 #[true,true,false,false,false,false,false,false] rfl rfl HT_.out ?_;refine pp_ 2 32 m32_ rfl rfl HT_.out ?_;refine pp_ 3 33 m33_ rfl rfl HT_.out ?_;refine pp_ 5 35 #[true,true,true,true,false,true,false,false] rfl rfl HT_.out ?_;refine take_ (i:=4) (N:=some 34) (v:=?_) (a':=?_) m34_ rfl rfl (take_ofW HT_.out HW_.out (by kernel_rfl)) (fun _ _ _ h=>h) (Or.inl ⟨by rfl,?_⟩) hHeld ?_ ?_;rotate_left
        ·rintro w' ⟨s0,s1,s2⟩;go_simp
         with_reducible rfl
        rotate_left
        ·simp only [Act.put,QE,QF,QG,i64_w,i32_w];rfl
        refine one_ (i:=6) (N:=some 36) m35_ rfl rfl (one_of HT_.out (by kernel_rfl)) (by decide) (fun K hK=>?_);refine goes_ Try.func71 (by kernel_rfl) rfl #[.int .i64 (wrap64 ((wrap64 (x1_1 + 1)) + 1))] (by rfl) rfl rfl (sf0_) ?_
        with_reducible refine (laws_markText.calls k1 (wrap64 ((wrap64 (x1_1 + 1)) + 1)) t116 _ A7.o).mono ?_
        rintro e w12 ⟨rfl,hb⟩;refine ⟨_,rfl,?_⟩;have n0_:=Qa (Qm (bg0_) hb);clear HB;have HB:=n0_;clear n0_;(try clear hb);(try clear hb2);(try clear hk);(try clear hi);refine hK.out _ _ ⟨((HB.o.cell (World.block_lt_of_cell? w _ hw115_0)).trans hw115_0),((HB.o.cell (World.block_lt_of_cell? w _ hw115_1)).trans hw115_1),((HB.o.cell (World.block_lt_of_cell? w _ hw115_2)).trans hw115_2)⟩ (fun hHeld=>?_);clear hK K;refine norm_ (a':=?_) ?_ ?_;rotate_left
        ·(show Act.put _ (some 36) _ = _);simp only [Act.put,QE,QF,QG,i64_w,i32_w];rfl
        refine pp_ 7 37 m36_ rfl rfl HT_.out ?_;refine done_ (done_of HT_.out (by kernel_rfl)) ?_;(try go_wp2);go_ret;exact ⟨sf2_,bg0_⟩
      ·rw [if_neg c6] at H;have c6b0 : (((rd_T74 l0 x5_1).f1) == (wrap64 (x1_1 + 1))) = false:=beq_eq_false_iff_ne.mpr c6;have c6b1 : (((rd_T74 l0 x5_1).f1) != (wrap64 (x1_1 + 1))) = true:=bne_iff_ne.mpr c6;obtain rfl:=QK H;have p113 : 0 ≤ (x5_1 : Int):=QB (by assumption);have q113 : x5_1 < (l0.length : Int):=QB (by assumption);obtain ⟨ad113,e113,hx113_0,hx113_1,hx113_2⟩:=at_T74 HR0.o x5_1 p113 q113;cases e113;(try replace hx113_0:=(HB.o.cell (World.block_lt_of_cell? w _ hx113_0)).trans hx113_0);(try replace hx113_1:=(HB.o.cell (World.block_lt_of_cell? w _ hx113_1)).trans hx113_1);(try replace hx113_2:=(HB.o.cell (World.block_lt_of_cell? w _ hx113_2)).trans hx113_2);replace p113:=eq_true p113;replace q113:=eq_true q113;have p114 : 0 ≤ (x5_1 : Int):=QB (by assumption);have q114 : x5_1 < (l0.length : Int):=QB (by assumption);obtain ⟨ad114,e114,hx114_0,hx114_1,hx114_2⟩:=at_T74 HR0.o x5_1 p114 q114;obtain rfl : ad113 = ad114:=(by injection e114);(try replace hx114_0:=(HB.o.cell (World.block_lt_of_cell? w _ hx114_0)).trans hx114_0);(try replace hx114_1:=(HB.o.cell (World.block_lt_of_cell? w _ hx114_1)).trans hx114_1);(try replace hx114_2:=(HB.o.cell (World.block_lt_of_cell? w _ hx114_2)).trans hx114_2);replace p114:=eq_true p114;replace q114:=eq_true q114;go_wp2;go_ret;exact ⟨sf2_,bg0_⟩
     ·rw [if_neg c5] at H;have c5b0 : (((rd_T74 l0 x5_1).f0) == x1_1) = false:=beq_eq_false_iff_ne.mpr c5;have c5b1 : (((rd_T74 l0 x5_1).f0) != x1_1) = true:=bne_iff_ne.mpr c5;obtain rfl:=QK H;have p113 : 0 ≤ (x5_1 : Int):=QB (by assumption);have q113 : x5_1 < (l0.length : Int):=QB (by assumption);obtain ⟨ad113,e113,hx113_0,hx113_1,hx113_2⟩:=at_T74 HR0.o x5_1 p113 q113;cases e113;(try replace hx113_0:=(HB.o.cell (World.block_lt_of_cell? w _ hx113_0)).trans hx113_0);(try replace hx113_1:=(HB.o.cell (World.block_lt_of_cell? w _ hx113_1)).trans hx113_1);(try replace hx113_2:=(HB.o.cell (World.block_lt_of_cell? w _ hx113_2)).trans hx113_2);replace p113:=eq_true p113;replace q113:=eq_true q113;go_wp2;go_ret;exact ⟨sf2_,bg0_⟩
    ·rw [if_neg c4] at H;exact absurd H (by simp)
   ·rw [if_neg c3] at H;have c3b0 : decide (x5_1 < (l0.length : Int)) = false:=QD c3;clear c3;obtain rfl:=QK H;go_wp2;go_ret;exact ⟨sf2_,bg0_⟩

/-! ### laws_szPart: function 55 -/
def laws_szPart.f (a0_0 : Int) (a0_1 : Int) (a0_2 : ByteArray) (a1 : Int) : Option (Int):=if (wrap64 (a1 - (a0_2.size : Int))) < 0 then (some (-1)) else (some (wrap64 (a1 - (a0_2.size : Int))))
set_option maxHeartbeats 8000000 in
set_option maxRecDepth 100000 in
theorem laws_szPart.calls (a0_0 : Int) (a0_1 : Int) (a0_2 : ByteArray) (a1 : Int) (r : Int) (w : World) (h : laws_szPart.f a0_0 a0_1 a0_2 a1 = some r) :
  Calls Try.prog 55 #[.agg #[.int .i64 a0_0,.int .i64 a0_1,.string a0_2],.int .i64 a1] w fun e w'=>e = .returned (.int .i64 r)∧Below w.heap.size w w':=by
 have hu73:=Try.underlying73;have HB:=Qa (Below.refl w.heap.size w);have H : (if (wrap64 (a1 - (a0_2.size : Int))) < 0 then (some (-1)) else (some (wrap64 (a1 - (a0_2.size : Int))))) = some r:=h;clear h
 by_cases c3 : (wrap64 (a1 - (a0_2.size : Int))) < 0
 ·rw [if_pos c3] at H;have c3b0 : decide ((wrap64 (a1 - (a0_2.size : Int))) < 0) = true:=QC c3;clear c3;obtain rfl:=QK H;go_enter Try.func55,Try.ntmps55;go_wp2_with (first|((with_reducible refine gate_dst (N:=2) rfl ?_);refine box_event ?hg (N:=2) ?hd (cs:=#[.int .i64 a0_0,.int .i64 a0_1,.string a0_2]) (t:=73) ?hr ?_;(case hd=>rfl);(case hg=>rfl);(case hr=>first|(go_simp;done)|(go_simp;rfl));intro gb117 hg w4 hbox hb;have n0_:=Qa (Qm (bg0_) hb);have n1_:=Qa (hbox);have n2_:=Qa ((by rw [hg];exact (Qn (bg0_)) : w.heap.size ≤ gb117));have n3_:=Qa ((by rw [hg];exact (Qn (bg0_)) : w.heap.size ≤ gb117));clear HB;have HB:=n0_;have BK117:=n1_;have GW117:=n2_;have GE117:=n3_;clear n0_ n1_ n2_ n3_;clear hb hbox hg;have hcz5_0 : w4.cell? ⟨gb117,0,none⟩ = some (.int .i64 a0_0):=(Qb BK117.o 0).trans rfl;have hcz5_1 : w4.cell? ⟨gb117,1,none⟩ = some (.int .i64 a0_1):=(Qb BK117.o 1).trans rfl;have hcz5_2 : w4.cell? ⟨gb117,2,none⟩ = some (.string a0_2):=(Qb BK117.o 2).trans rfl;have hfz5_0:=Qc BK117.o 0;have hfz5_1:=Qc BK117.o 1;have hfz5_2:=Qc BK117.o 2));go_ret;exact ⟨sf2_,b117_⟩
 ·rw [if_neg c3] at H;have c3b0 : decide ((wrap64 (a1 - (a0_2.size : Int))) < 0) = false:=QD c3;clear c3;obtain rfl:=QK H;go_enter Try.func55,Try.ntmps55;go_wp2_with (first|((with_reducible refine gate_dst (N:=2) rfl ?_);refine box_event ?hg (N:=2) ?hd (cs:=#[.int .i64 a0_0,.int .i64 a0_1,.string a0_2]) (t:=73) ?hr ?_;(case hd=>rfl);(case hg=>rfl);(case hr=>first|(go_simp;done)|(go_simp;rfl));intro gb117 hg w6 hbox hb;have n0_:=Qa (Qm (bg0_) hb);have n1_:=Qa (hbox);have n2_:=Qa ((by rw [hg];exact (Qn (bg0_)) : w.heap.size ≤ gb117));have n3_:=Qa ((by rw [hg];exact (Qn (bg0_)) : w.heap.size ≤ gb117));clear HB;have HB:=n0_;have BK117:=n1_;have GW117:=n2_;have GE117:=n3_;clear n0_ n1_ n2_ n3_;clear hb hbox hg;have hcz7_0 : w6.cell? ⟨gb117,0,none⟩ = some (.int .i64 a0_0):=(Qb BK117.o 0).trans rfl;have hcz7_1 : w6.cell? ⟨gb117,1,none⟩ = some (.int .i64 a0_1):=(Qb BK117.o 1).trans rfl;have hcz7_2 : w6.cell? ⟨gb117,2,none⟩ = some (.string a0_2):=(Qb BK117.o 2).trans rfl;have hfz7_0:=Qc BK117.o 0;have hfz7_1:=Qc BK117.o 1;have hfz7_2:=Qc BK117.o 2));go_ret;exact ⟨sf2_,b117_⟩

/-! ### laws_szPartS: function 15 -/
def laws_szPartS.l0 : Nat → List (S73) → Int → Int → Option (Int)
 | 0,_,_,_=>none
 | k + 1,x0,x1,x5=>if x5 < (x0.length : Int) then (if 0 ≤ x5 then ((laws_szPart.f ((rd_T73 x0 x5).f0) ((rd_T73 x0 x5).f1) ((rd_T73 x0 x5).f2) x1).bind fun t119=>(if t119 < 0 then (some (-1)) else (laws_szPartS.l0 k x0 t119 (wrap64 (x5 + 1))))) else (none)) else (some x1)
def laws_szPartS.f (k : Nat) (l0 : List (S73)) (a1 : Int) : Option (Int):=if (wrap64 (a1 - (l0.length : Int))) < 0 then (some (-1)) else (laws_szPartS.l0 k l0 (wrap64 (a1 - (l0.length : Int))) 0)
theorem laws_szPartS.mono_l : ∀ k,(∀ y0 y1 y2,LeO (laws_szPartS.l0 k y0 y1 y2) (laws_szPartS.l0 (k + 1) y0 y1 y2))
 | 0=>fun _ _ _ r h=>by simp [laws_szPartS.l0] at h
 | k + 1=>by
  have ih0:=laws_szPartS.mono_l k
  ·intro y0 y1 y2;unfold laws_szPartS.l0
   repeat' first|(with_reducible first|exact ih0 _ _ _|exact LeO.refl _|exact LeO.none _|refine LeO.ite ?_ ?_|refine LeO.bind ?_ (fun _=>?_))|exact ih0 _ _ _|exact LeO.none _|refine LeO.ite ?_ ?_|refine LeO.bind ?_ (fun _=>?_)
theorem laws_szPartS.mono : ∀ a0 a1 k,LeO (laws_szPartS.f k a0 a1) (laws_szPartS.f (k + 1) a0 a1):=by
 intro a0 a1 k;have ih0:=laws_szPartS.mono_l k;unfold laws_szPartS.f
 repeat' first|(with_reducible first|exact ih0 _ _ _|exact LeO.refl _|exact LeO.none _|refine LeO.ite ?_ ?_|refine LeO.bind ?_ (fun _=>?_))|exact ih0 _ _ _|exact LeO.none _|refine LeO.ite ?_ ?_|refine LeO.bind ?_ (fun _=>?_)
set_option maxHeartbeats 8000000 in
set_option maxRecDepth 100000 in
theorem laws_szPartS.calls (k : Nat) (A0 : Option Addr) (c0 : Nat) (l0 : List (S73)) (a1 : Int) (r : Int) (w : World) (hr0 : Kd.C k73 w A0 l0.length l0) (hc0 : l0.length ≤ c0) (h : laws_szPartS.f k l0 a1 = some r) :
  Calls Try.prog 15 #[.slice A0 l0.length c0,.int .i64 a1] w fun e w'=>e = .returned (.int .i64 r)∧Below w.heap.size w w':=by
 have hu73:=Try.underlying73;have HR0:=Qa hr0;have HC0:=Qa hc0;clear hr0 hc0;have HB:=Qa (Below.refl w.heap.size w);have H : (if (wrap64 (a1 - (l0.length : Int))) < 0 then (some (-1)) else (laws_szPartS.l0 k l0 (wrap64 (a1 - (l0.length : Int))) 0)) = some r:=h;clear h
 by_cases c3 : (wrap64 (a1 - (l0.length : Int))) < 0
 ·rw [if_pos c3] at H;have c3b0 : decide ((wrap64 (a1 - (l0.length : Int))) < 0) = true:=QC c3;clear c3;obtain rfl:=QK H;go_enter Try.func15,Try.ntmps15;go_wp2;go_ret;exact ⟨sf2_,bg0_⟩
 ·rw [if_neg c3] at H;have c3b0 : decide ((wrap64 (a1 - (l0.length : Int))) < 0) = false:=QD c3;clear c3;have H':=Qa H;clear H;go_enter Try.func15,Try.ntmps15;go_wp2;go_loopg [1,5] k (fun kq v1 v5 w'=>∃ (x1_1 : Int) (x5_1 : Int),v1 = .int .i64 x1_1∧v5 = .int .i64 x5_1∧Aside0 (laws_szPartS.l0 kq l0 x1_1 x5_1 = some r)∧Aside0 (kq ≤ k)∧Aside0 (Below w.heap.size w w'))
  case atStart=>exact ⟨(wrap64 (a1 - (l0.length : Int))),(0),(sf1_),(sf1_),H',⟨QN _⟩,⟨bg0_⟩⟩
  case round =>
   clear H';(try clear c1;try clear p2;try clear c3;try clear c3b0);obtain ⟨x1_1,x5_1,rfl,rfl,HA,HK1,HB⟩:=hrel
   cases gk with
   | zero=>exact absurd HA.out (by simp [laws_szPartS.l0])
   | succ k1 =>
    have H:=HA.out;clear HA;simp only [laws_szPartS.l0] at H
    by_cases c4 : x5_1 < (l0.length : Int)
    ·rw [if_pos c4] at H;have c4b0 : decide (x5_1 < (l0.length : Int)) = true:=QC c4;clear c4
     by_cases c5 : 0 ≤ x5_1
     ·rw [if_pos c5] at H;have c5b0 : decide (0 ≤ x5_1) = true:=QC c5;clear c5;replace H:=QA H;obtain ⟨t119,A60,H⟩:=H;replace H : (if t119 < 0 then (some (-1)) else (laws_szPartS.l0 k1 l0 t119 (wrap64 (x5_1 + 1)))) = some r:=H;have A6:=Qa A60;clear A60
      by_cases c7 : t119 < 0
      ·rw [if_pos c7] at H;have c7b0 : decide (t119 < 0) = true:=QC c7;clear c7;obtain rfl:=QK H;have p118 : 0 ≤ (x5_1 : Int):=QB (by assumption);have q118 : x5_1 < (l0.length : Int):=QB (by assumption);obtain ⟨ad118,e118,hx118_0,hx118_1,hx118_2⟩:=at_T73 HR0.o x5_1 p118 q118;cases e118;(try replace hx118_0:=(HB.o.cell (World.block_lt_of_cell? w _ hx118_0)).trans hx118_0);(try replace hx118_1:=(HB.o.cell (World.block_lt_of_cell? w _ hx118_1)).trans hx118_1);(try replace hx118_2:=(HB.o.cell (World.block_lt_of_cell? w _ hx118_2)).trans hx118_2);replace p118:=eq_true p118;replace q118:=eq_true q118;go_wp2_with (first|((with_reducible refine gate_callee (f:=55) rfl ?_);refine goesL_ (some 23) rfl rfl Try.func55 (by kernel_rfl) rfl #[.agg #[.int .i64 ((rd_T73 l0 x5_1).f0),.int .i64 ((rd_T73 l0 x5_1).f1),.string ((rd_T73 l0 x5_1).f2)],.int .i64 x1_1] rfl (sf0_) ?_;(with_reducible refine (laws_szPart.calls ((rd_T73 l0 x5_1).f0) ((rd_T73 l0 x5_1).f1) ((rd_T73 l0 x5_1).f2) x1_1 t119 _ A6.o).mono ?_);rintro e w8 ⟨rfl,hb⟩;refine ⟨_,rfl,?_⟩;have n0_:=Qa (Qm (bg0_) hb);clear HB;have HB:=n0_;clear n0_;(try clear hb);(try clear hb2);(try clear hk);(try clear hi)));go_ret;exact ⟨sf2_,bg0_⟩
      ·rw [if_neg c7] at H;have c7b0 : decide (t119 < 0) = false:=QD c7;clear c7;have H':=Qa H;clear H;have p118 : 0 ≤ (x5_1 : Int):=QB (by assumption);have q118 : x5_1 < (l0.length : Int):=QB (by assumption);obtain ⟨ad118,e118,hx118_0,hx118_1,hx118_2⟩:=at_T73 HR0.o x5_1 p118 q118;cases e118;(try replace hx118_0:=(HB.o.cell (World.block_lt_of_cell? w _ hx118_0)).trans hx118_0);(try replace hx118_1:=(HB.o.cell (World.block_lt_of_cell? w _ hx118_1)).trans hx118_1);(try replace hx118_2:=(HB.o.cell (World.block_lt_of_cell? w _ hx118_2)).trans hx118_2);replace p118:=eq_true p118;replace q118:=eq_true q118;go_wp2_with (first|((with_reducible refine gate_callee (f:=55) rfl ?_);refine goesL_ (some 23) rfl rfl Try.func55 (by kernel_rfl) rfl #[.agg #[.int .i64 ((rd_T73 l0 x5_1).f0),.int .i64 ((rd_T73 l0 x5_1).f1),.string ((rd_T73 l0 x5_1).f2)],.int .i64 x1_1] rfl (sf0_) ?_;(with_reducible refine (laws_szPart.calls ((rd_T73 l0 x5_1).f0) ((rd_T73 l0 x5_1).f1) ((rd_T73 l0 x5_1).f2) x1_1 t119 _ A6.o).mono ?_);rintro e w9 ⟨rfl,hb⟩;refine ⟨_,rfl,?_⟩;have n0_:=Qa (Qm (bg0_) hb);clear HB;have HB:=n0_;clear n0_;(try clear hb);(try clear hb2);(try clear hk);(try clear hi)));go_roundg k1
       case measure=>have:=HK1.o;omega
       case rel=>exact ⟨(t119),(wrap64 (x5_1 + 1)),(sf1_),(sf1_),H',⟨by have:=HK1.o;omega⟩,⟨bg0_⟩⟩
     ·rw [if_neg c5] at H;exact absurd H (by simp)
    ·rw [if_neg c4] at H;have c4b0 : decide (x5_1 < (l0.length : Int)) = false:=QD c4;clear c4;obtain rfl:=QK H;go_wp2;go_ret;exact ⟨sf2_,bg0_⟩

/-! ### laws_szChange: function 78 -/
def laws_szChange.f (k : Nat) (l0_0 : List (S73)) (a1 : Int) : Option (Int):=(laws_szPartS.f k l0_0 a1).bind fun t121=>(if t121 < 0 then (some (-1)) else (some t121))
theorem laws_szChange.mono : ∀ a0 a1 k,LeO (laws_szChange.f k a0 a1) (laws_szChange.f (k + 1) a0 a1):=by
 intro a0 a1 k;unfold laws_szChange.f
 repeat' first|(with_reducible first|exact laws_szPartS.mono _ _ _|exact LeO.refl _|exact LeO.none _|refine LeO.ite ?_ ?_|refine LeO.bind ?_ (fun _=>?_))|exact laws_szPartS.mono _ _ _|exact LeO.none _|refine LeO.ite ?_ ?_|refine LeO.bind ?_ (fun _=>?_)
set_option maxHeartbeats 8000000 in
set_option maxRecDepth 100000 in
theorem laws_szChange.calls (k : Nat) (A0_0 : Option Addr) (c0_0 : Nat) (l0_0 : List (S73)) (a1 : Int) (r : Int) (w : World) (hr0_0 : Kd.C k73 w A0_0 l0_0.length l0_0) (hc0_0 : l0_0.length ≤ c0_0) (h : laws_szChange.f k l0_0 a1 = some r) :
  Calls Try.prog 78 #[.agg #[.slice A0_0 l0_0.length c0_0],.int .i64 a1] w fun e w'=>e = .returned (.int .i64 r)∧Below w.heap.size w w':=by
 have hu98:=Try.underlying98;have HR0_0:=Qa hr0_0;have HC0_0:=Qa hc0_0;clear hr0_0 hc0_0;have HB:=Qa (Below.refl w.heap.size w);have H : ((laws_szPartS.f k l0_0 a1).bind fun t121=>(if t121 < 0 then (some (-1)) else (some t121))) = some r:=h;clear h;replace H:=QA H;obtain ⟨t121,A30,H⟩:=H;replace H : (if t121 < 0 then (some (-1)) else (some t121)) = some r:=H;have A3:=Qa A30;clear A30
 by_cases c4 : t121 < 0
 ·rw [if_pos c4] at H;have c4b0 : decide (t121 < 0) = true:=QC c4;clear c4;obtain rfl:=QK H;go_enter Try.func78,Try.ntmps78;go_wp2_with (first|((with_reducible refine gate_dst (N:=2) rfl ?_);refine box_event ?hg (N:=2) ?hd (cs:=#[.slice A0_0 l0_0.length c0_0]) (t:=98) ?hr ?_;(case hd=>rfl);(case hg=>rfl);(case hr=>first|(go_simp;done)|(go_simp;rfl));intro gb120 hg w5 hbox hb;have n0_:=Qa (Qm (bg0_) hb);have n1_:=Qa (hbox);have n2_:=Qa ((by rw [hg];exact (Qn (bg0_)) : w.heap.size ≤ gb120));have n3_:=Qa ((by rw [hg];exact (Qn (bg0_)) : w.heap.size ≤ gb120));clear HB;have HB:=n0_;have BK120:=n1_;have GW120:=n2_;have GE120:=n3_;clear n0_ n1_ n2_ n3_;clear hb hbox hg;have hcz6_0 : w5.cell? ⟨gb120,0,none⟩ = some (.slice A0_0 l0_0.length c0_0):=(Qb BK120.o 0).trans rfl;have hfz6_0:=Qc BK120.o 0)|((with_reducible refine gate_callee (f:=15) rfl ?_);refine goesL_ (some 8) rfl rfl Try.func15 (by kernel_rfl) rfl #[.slice A0_0 l0_0.length c0_0,.int .i64 a1] rfl (sf0_) ?_;(with_reducible refine (laws_szPartS.calls k _ _ l0_0 a1 t121 _ ?side1 ?side2 A3.o).mono ?_);(case side1=>exact cb_ HR0_0.o);(case side2=>exact HC0_0.o);rintro e w7 ⟨rfl,hb⟩;refine ⟨_,rfl,?_⟩;have n0_:=Qa (Qd (g:=gb120) (o:=.cells #[.slice A0_0 l0_0.length c0_0] 98 (0,0)) (bk_ BK120.o) hb);have n1_:=Qa (Qm (b120_) hb);clear BK120;clear HB;have BK120:=n0_;have HB:=n1_;clear n0_ n1_;(try clear hb);(try clear hb2);(try clear hk);(try clear hi)));go_ret;exact ⟨sf2_,b120_⟩
 ·rw [if_neg c4] at H;have c4b0 : decide (t121 < 0) = false:=QD c4;clear c4;obtain rfl:=QK H;go_enter Try.func78,Try.ntmps78;go_wp2_with (first|((with_reducible refine gate_dst (N:=2) rfl ?_);refine box_event ?hg (N:=2) ?hd (cs:=#[.slice A0_0 l0_0.length c0_0]) (t:=98) ?hr ?_;(case hd=>rfl);(case hg=>rfl);(case hr=>first|(go_simp;done)|(go_simp;rfl));intro gb120 hg w8 hbox hb;have n0_:=Qa (Qm (bg0_) hb);have n1_:=Qa (hbox);have n2_:=Qa ((by rw [hg];exact (Qn (bg0_)) : w.heap.size ≤ gb120));have n3_:=Qa ((by rw [hg];exact (Qn (bg0_)) : w.heap.size ≤ gb120));clear HB;have HB:=n0_;have BK120:=n1_;have GW120:=n2_;have GE120:=n3_;clear n0_ n1_ n2_ n3_;clear hb hbox hg;have hcz9_0 : w8.cell? ⟨gb120,0,none⟩ = some (.slice A0_0 l0_0.length c0_0):=(Qb BK120.o 0).trans rfl;have hfz9_0:=Qc BK120.o 0)|((with_reducible refine gate_callee (f:=15) rfl ?_);refine goesL_ (some 8) rfl rfl Try.func15 (by kernel_rfl) rfl #[.slice A0_0 l0_0.length c0_0,.int .i64 a1] rfl (sf0_) ?_;(with_reducible refine (laws_szPartS.calls k _ _ l0_0 a1 t121 _ ?side1 ?side2 A3.o).mono ?_);(case side1=>exact cb_ HR0_0.o);(case side2=>exact HC0_0.o);rintro e w10 ⟨rfl,hb⟩;refine ⟨_,rfl,?_⟩;have n0_:=Qa (Qd (g:=gb120) (o:=.cells #[.slice A0_0 l0_0.length c0_0] 98 (0,0)) (bk_ BK120.o) hb);have n1_:=Qa (Qm (b120_) hb);clear BK120;clear HB;have BK120:=n0_;have HB:=n1_;clear n0_ n1_;(try clear hb);(try clear hb2);(try clear hk);(try clear hi)));go_ret;exact ⟨sf2_,b120_⟩

/-! ### laws_szChangeS: function 44 -/
def laws_szChangeS.l0 : Nat → List (S98) → Int → Int → Option (Int)
 | 0,_,_,_=>none
 | k + 1,x0,x1,x5=>if x5 < (x0.length : Int) then (if 0 ≤ x5 then ((laws_szChange.f k ((rd_T98 x0 x5).f0) x1).bind fun t123=>(if t123 < 0 then (some (-1)) else (laws_szChangeS.l0 k x0 t123 (wrap64 (x5 + 1))))) else (none)) else (some x1)
def laws_szChangeS.f (k : Nat) (l0 : List (S98)) (a1 : Int) : Option (Int):=if (wrap64 (a1 - (l0.length : Int))) < 0 then (some (-1)) else (laws_szChangeS.l0 k l0 (wrap64 (a1 - (l0.length : Int))) 0)
theorem laws_szChangeS.mono_l : ∀ k,(∀ y0 y1 y2,LeO (laws_szChangeS.l0 k y0 y1 y2) (laws_szChangeS.l0 (k + 1) y0 y1 y2))
 | 0=>fun _ _ _ r h=>by simp [laws_szChangeS.l0] at h
 | k + 1=>by
  have ih0:=laws_szChangeS.mono_l k
  ·intro y0 y1 y2;unfold laws_szChangeS.l0
   repeat' first|(with_reducible first|exact ih0 _ _ _|exact laws_szChange.mono _ _ _|exact LeO.refl _|exact LeO.none _|refine LeO.ite ?_ ?_|refine LeO.bind ?_ (fun _=>?_))|exact ih0 _ _ _|exact laws_szChange.mono _ _ _|exact LeO.none _|refine LeO.ite ?_ ?_|refine LeO.bind ?_ (fun _=>?_)
theorem laws_szChangeS.mono : ∀ a0 a1 k,LeO (laws_szChangeS.f k a0 a1) (laws_szChangeS.f (k + 1) a0 a1):=by
 intro a0 a1 k;have ih0:=laws_szChangeS.mono_l k;unfold laws_szChangeS.f
 repeat' first|(with_reducible first|exact ih0 _ _ _|exact laws_szChange.mono _ _ _|exact LeO.refl _|exact LeO.none _|refine LeO.ite ?_ ?_|refine LeO.bind ?_ (fun _=>?_))|exact ih0 _ _ _|exact laws_szChange.mono _ _ _|exact LeO.none _|refine LeO.ite ?_ ?_|refine LeO.bind ?_ (fun _=>?_)
set_option maxHeartbeats 8000000 in
set_option maxRecDepth 100000 in
theorem laws_szChangeS.calls (k : Nat) (A0 : Option Addr) (c0 : Nat) (l0 : List (S98)) (a1 : Int) (r : Int) (w : World) (hr0 : Kd.C k98 w A0 l0.length l0) (hc0 : l0.length ≤ c0) (h : laws_szChangeS.f k l0 a1 = some r) :
  Calls Try.prog 44 #[.slice A0 l0.length c0,.int .i64 a1] w fun e w'=>e = .returned (.int .i64 r)∧Below w.heap.size w w':=by
 have hu98:=Try.underlying98;have HR0:=Qa hr0;have HC0:=Qa hc0;clear hr0 hc0;have HB:=Qa (Below.refl w.heap.size w);have H : (if (wrap64 (a1 - (l0.length : Int))) < 0 then (some (-1)) else (laws_szChangeS.l0 k l0 (wrap64 (a1 - (l0.length : Int))) 0)) = some r:=h;clear h
 by_cases c3 : (wrap64 (a1 - (l0.length : Int))) < 0
 ·rw [if_pos c3] at H;have c3b0 : decide ((wrap64 (a1 - (l0.length : Int))) < 0) = true:=QC c3;clear c3;obtain rfl:=QK H;go_enter Try.func44,Try.ntmps44;go_wp2;go_ret;exact ⟨sf2_,bg0_⟩
 ·rw [if_neg c3] at H;have c3b0 : decide ((wrap64 (a1 - (l0.length : Int))) < 0) = false:=QD c3;clear c3;have H':=Qa H;clear H;go_enter Try.func44,Try.ntmps44;go_wp2;go_loopg [1,5] k (fun kq v1 v5 w'=>∃ (x1_1 : Int) (x5_1 : Int),v1 = .int .i64 x1_1∧v5 = .int .i64 x5_1∧Aside0 (laws_szChangeS.l0 kq l0 x1_1 x5_1 = some r)∧Aside0 (kq ≤ k)∧Aside0 (Below w.heap.size w w'))
  case atStart=>exact ⟨(wrap64 (a1 - (l0.length : Int))),(0),(sf1_),(sf1_),H',⟨QN _⟩,⟨bg0_⟩⟩
  case round =>
   clear H';(try clear p2;try clear c3;try clear c3b0);obtain ⟨x1_1,x5_1,rfl,rfl,HA,HK1,HB⟩:=hrel
   cases gk with
   | zero=>exact absurd HA.out (by simp [laws_szChangeS.l0])
   | succ k1 =>
    have H:=HA.out;clear HA;simp only [laws_szChangeS.l0] at H
    by_cases c4 : x5_1 < (l0.length : Int)
    ·rw [if_pos c4] at H;have c4b0 : decide (x5_1 < (l0.length : Int)) = true:=QC c4;clear c4
     by_cases c5 : 0 ≤ x5_1
     ·rw [if_pos c5] at H;have c5b0 : decide (0 ≤ x5_1) = true:=QC c5;clear c5;replace H:=QA H;obtain ⟨t123,A60,H⟩:=H;replace H : (if t123 < 0 then (some (-1)) else (laws_szChangeS.l0 k1 l0 t123 (wrap64 (x5_1 + 1)))) = some r:=H;have A6:=Qa A60;clear A60
      by_cases c7 : t123 < 0
      ·rw [if_pos c7] at H;have c7b0 : decide (t123 < 0) = true:=QC c7;clear c7;obtain rfl:=QK H;have p122 : 0 ≤ (x5_1 : Int):=QB (by assumption);have q122 : x5_1 < (l0.length : Int):=QB (by assumption);obtain ⟨ad122,A122_0,c122_0,e122,hx122_0,hl122_0,hi122_0⟩:=at_T98 HR0.o x5_1 p122 q122;cases e122;(try replace hx122_0:=(HB.o.cell (World.block_lt_of_cell? w _ hx122_0)).trans hx122_0);have HR122_0:=Qa hi122_0;have HC122_0:=Qa hl122_0;clear hi122_0 hl122_0;replace p122:=eq_true p122;replace q122:=eq_true q122;go_wp2_with (first|((with_reducible refine gate_callee (f:=78) rfl ?_);refine goesL_ (some 23) rfl rfl Try.func78 (by kernel_rfl) rfl #[.agg #[.slice A122_0 ((rd_T98 l0 x5_1).f0).length c122_0],.int .i64 x1_1] rfl (sf0_) ?_;(with_reducible refine (laws_szChange.calls k1 _ _ ((rd_T98 l0 x5_1).f0) x1_1 t123 _ ?side1 ?side2 A6.o).mono ?_);(case side1=>exact cb_ HR122_0.o);(case side2=>exact HC122_0.o);rintro e w8 ⟨rfl,hb⟩;refine ⟨_,rfl,?_⟩;have n0_:=Qa (Qm (bg0_) hb);clear HB;have HB:=n0_;clear n0_;(try clear hb);(try clear hb2);(try clear hk);(try clear hi)));go_ret;exact ⟨sf2_,bg0_⟩
      ·rw [if_neg c7] at H;have c7b0 : decide (t123 < 0) = false:=QD c7;clear c7;have H':=Qa H;clear H;have p122 : 0 ≤ (x5_1 : Int):=QB (by assumption);have q122 : x5_1 < (l0.length : Int):=QB (by assumption);obtain ⟨ad122,A122_0,c122_0,e122,hx122_0,hl122_0,hi122_0⟩:=at_T98 HR0.o x5_1 p122 q122;cases e122;(try replace hx122_0:=(HB.o.cell (World.block_lt_of_cell? w _ hx122_0)).trans hx122_0);have HR122_0:=Qa hi122_0;have HC122_0:=Qa hl122_0;clear hi122_0 hl122_0;replace p122:=eq_true p122;replace q122:=eq_true q122;go_wp2_with (first|((with_reducible refine gate_callee (f:=78) rfl ?_);refine goesL_ (some 23) rfl rfl Try.func78 (by kernel_rfl) rfl #[.agg #[.slice A122_0 ((rd_T98 l0 x5_1).f0).length c122_0],.int .i64 x1_1] rfl (sf0_) ?_;(with_reducible refine (laws_szChange.calls k1 _ _ ((rd_T98 l0 x5_1).f0) x1_1 t123 _ ?side1 ?side2 A6.o).mono ?_);(case side1=>exact cb_ HR122_0.o);(case side2=>exact HC122_0.o);rintro e w9 ⟨rfl,hb⟩;refine ⟨_,rfl,?_⟩;have n0_:=Qa (Qm (bg0_) hb);clear HB;have HB:=n0_;clear n0_;(try clear hb);(try clear hb2);(try clear hk);(try clear hi)));go_roundg k1
       case measure=>have:=HK1.o;omega
       case rel=>exact ⟨(t123),(wrap64 (x5_1 + 1)),(sf1_),(sf1_),H',⟨by have:=HK1.o;omega⟩,⟨bg0_⟩⟩
     ·rw [if_neg c5] at H;exact absurd H (by simp)
    ·rw [if_neg c4] at H;have c4b0 : decide (x5_1 < (l0.length : Int)) = false:=QD c4;clear c4;obtain rfl:=QK H;go_wp2;go_ret;exact ⟨sf2_,bg0_⟩

end Go.Proofs.Ytebmncdjlmnbnaa.PFnExactComposeAll
