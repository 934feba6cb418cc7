-- Written by a program of this session over the print of the kit (wip/t/patch_print.py).
import Derived.Test.YtggnbbbhlnjleaaPFnExactTextInx0
import Derived.Test.YtggnbbbhlnjleaaPFnExactTextInx8
import Derived.Test.YtggnbbbhlnjleaaPFnExactTextInx10
namespace Go.Proofs.Ytggnbbbhlnjleaa.PFnExactTextIn
open Go.RowKit Go.Proofs.YtggnbbbhlnjleaaW.PrintWords Go.Proofs.YtggnbbbhlnjleaaW.PrintLast Go.Proofs.YtggnbbbhlnjleaaW.PrintMore
attribute [local go_sem] max2_int min2_int max_two min_two max_three min_three max_four min_four   -- for this text's walks alone
set_option linter.unusedVariables false
set_option linter.unusedSimpArgs false

/-! ### impl_Space_text: function 44 -/
def impl_Space_text.l0 : Nat → Int → ByteArray → List Int → List (S80) → Int → Int → Option (ByteArray × List Int × Bool)
 | 0,_,_,_,_,_,_=>none
 | k + 1,x1,x9,x10,x22,x23,x24=>if x24 < x23 then (if 0 ≤ x24 then (if x24 < (x22.length : Int) then (if x9.size + ((rd_T80 x22 x24).f2).size ≤ 9223372036854775807 then (if x10.length < 17592186044416 then (impl_Space_text.l0 k x1 (x9 ++ ((rd_T80 x22 x24).f2)) (x10 ++ [(rd_T80 x22 x24).f0]) x22 x23 (wrap64 (x24 + 1))) else (none)) else (none)) else (none)) else (none)) else (if x10.length < 17592186044416 then (some (x9,(x10 ++ [x1]),true)) else (none))
def impl_Space_text.f (k : Nat) (l0_0 : List (List Int)) (l0_1 : List Int) (l0_2 : List Int) (l0_3 : List Int) (a1 : Int) : Option (ByteArray × List Int × Bool):=(impl_Space_pieces.f k l0_0 l0_1 l0_2 l0_3 a1).bind fun bt303=>(if bt303.2 = true then (impl_Space_text.l0 k a1 (⟨#[]⟩ : ByteArray) (([] : List Int)) bt303.1 (bt303.1.length : Int) 0) else (some ((⟨#[]⟩ : ByteArray),([] : List Int),false)))
theorem impl_Space_text.mono_l : ∀ k,(∀ y0 y1 y2 y3 y4 y5,LeO (impl_Space_text.l0 k y0 y1 y2 y3 y4 y5) (impl_Space_text.l0 (k + 1) y0 y1 y2 y3 y4 y5))
 | 0=>fun _ _ _ _ _ _ r h=>by simp [impl_Space_text.l0] at h
 | k + 1=>by
  have ih0:=impl_Space_text.mono_l k
  ·intro y0 y1 y2 y3 y4 y5
   unfold impl_Space_text.l0
   repeat' first
   | (with_reducible exact ih0 _ _ _ _ _ _)
   | (with_reducible exact impl_Space_pieces.mono _ _ _ _ _ _)
   | (with_reducible exact LeO.refl _)
   | (with_reducible exact LeO.none _)
   | (with_reducible refine LeO.ite ?_ ?_)
   | (with_reducible refine LeO.bind ?_ (fun _=>?_))
   | exact ih0 _ _ _ _ _ _
   | exact impl_Space_pieces.mono _ _ _ _ _ _
   | exact LeO.none _
   | refine LeO.ite ?_ ?_
   | refine LeO.bind ?_ (fun _=>?_)
theorem impl_Space_text.mono : ∀ a0 a1 a2 a3 a4 k,LeO (impl_Space_text.f k a0 a1 a2 a3 a4) (impl_Space_text.f (k + 1) a0 a1 a2 a3 a4):=by
 intro a0 a1 a2 a3 a4 k
 have ih0:=impl_Space_text.mono_l k
 unfold impl_Space_text.f
 repeat' first
   | (with_reducible exact ih0 _ _ _ _ _ _)
   | (with_reducible exact impl_Space_pieces.mono _ _ _ _ _ _)
   | (with_reducible exact LeO.refl _)
   | (with_reducible exact LeO.none _)
   | (with_reducible refine LeO.ite ?_ ?_)
   | (with_reducible refine LeO.bind ?_ (fun _=>?_))
   | exact ih0 _ _ _ _ _ _
   | exact impl_Space_pieces.mono _ _ _ _ _ _
   | exact LeO.none _
   | refine LeO.ite ?_ ?_
   | refine LeO.bind ?_ (fun _=>?_)
def impl_Space_text.T8 : Bool × List (List Nat × List Nat):=(true,[([],[]),([],[]),([1],[1]),([0,2],[0,2]),([],[]),([],[]),([5],[5]),([6],[6]),([4,7],[4,7]),([3,8,0,1,2,3],[0,3]),([8,9,0,1,2,3,4,5,6,7,8,9],[4,8])])
def impl_Space_text.B8 : List Nat:=[0,0,2,7,0,0,32,96,240,511,1023]
theorem impl_Space_text.tab8 : rtab .any (opsOf Try.f44 8) = impl_Space_text.T8:=by kernel_rfl
theorem impl_Space_text.bits8 : waitsOk impl_Space_text.T8.2 impl_Space_text.B8 = true:=by kernel_rfl
set_option maxHeartbeats 8000000 in
set_option maxRecDepth 100000 in
theorem impl_Space_text.calls (k : Nat) (g0_ : Nat) (A0_0 : Option Addr) (c0_0 : Nat) (l0_0 : List (List Int)) (A0_1 : Option Addr) (c0_1 : Nat) (l0_1 : List Int) (A0_2 : Option Addr) (c0_2 : Nat) (l0_2 : List Int) (A0_3 : Option Addr) (c0_3 : Nat) (l0_3 : List Int) (a1 : Int) (r1 : ByteArray) (r2 : List Int) (r3 : Bool) (w : World) (hg0_ : w.heap[g0_]? = some (.cells #[.slice A0_0 l0_0.length c0_0,.slice A0_1 l0_1.length c0_1,.slice A0_2 l0_2.length c0_2,.slice A0_3 l0_3.length c0_3] 28 (0,0))) (hr0_0 : Kd.C (Kd.slice 5 (Kd.int .u8)) w A0_0 l0_0.length l0_0) (hc0_0 : l0_0.length ≤ c0_0) (hr0_1 : Kd.C (Kd.int .u8) w A0_1 l0_1.length l0_1) (hc0_1 : l0_1.length ≤ c0_1) (hr0_2 : Kd.C (Kd.int .i64) w A0_2 l0_2.length l0_2) (hc0_2 : l0_2.length ≤ c0_2) (hr0_3 : Kd.C (Kd.int .i64) w A0_3 l0_3.length l0_3) (hc0_3 : l0_3.length ≤ c0_3) (h : impl_Space_text.f k l0_0 l0_1 l0_2 l0_3 a1 = some (r1,r2,r3)) :
  Calls Try.prog 44 #[.pointer (some ⟨g0_,0,none⟩),.int .i64 a1] w fun e w'=>∃ v1_ : Value,e = .returned (.tuple #[.string r1,v1_,.bool r3])∧Kd.R (Kd.int .i64) 3 w' w.heap.size (fun _=>True) v1_ r2∧Below w.heap.size w w':=by
 have hu80:=Try.underlying80
 have HR0_0:=Aside0.mk hr0_0
 have HC0_0:=Aside0.mk hc0_0
 clear hr0_0 hc0_0
 have HR0_1:=Aside0.mk hr0_1
 have HC0_1:=Aside0.mk hc0_1
 clear hr0_1 hc0_1
 have HR0_2:=Aside0.mk hr0_2
 have HC0_2:=Aside0.mk hc0_2
 clear hr0_2 hc0_2
 have HR0_3:=Aside0.mk hr0_3
 have HC0_3:=Aside0.mk hc0_3
 clear hr0_3 hc0_3
 have BK0:=Aside0.mk hg0_
 clear hg0_
 have HB:=Aside0.mk (Below.refl w.heap.size w)
 have H : ((impl_Space_pieces.f k l0_0 l0_1 l0_2 l0_3 a1).bind fun bt303=>(if bt303.2 = true then (impl_Space_text.l0 k a1 (⟨#[]⟩ : ByteArray) (([] : List Int)) bt303.1 (bt303.1.length : Int) 0) else (some ((⟨#[]⟩ : ByteArray),([] : List Int),false)))) = some (r1,r2,r3):=h
 clear h
 replace H:=Option.bind_eq_some_iff.mp H
 obtain ⟨⟨t303,t306⟩,A30,H⟩:=H
 replace H : (if t306 = true then (impl_Space_text.l0 k a1 (⟨#[]⟩ : ByteArray) (([] : List Int)) t303 (t303.length : Int) 0) else (some ((⟨#[]⟩ : ByteArray),([] : List Int),false))) = some (r1,r2,r3):=H
 have A3:=Aside0.mk A30
 clear A30
 by_cases c4 : t306 = true
 ·subst c4
  have H1 : (impl_Space_text.l0 k a1 (⟨#[]⟩ : ByteArray) (([] : List Int)) t303 (t303.length : Int) 0) = some (r1,r2,r3):=by rw [if_pos rfl] at H;exact H
  clear H
  have H:=H1
  clear H1
  obtain ⟨y307,hy307⟩ : ∃ y_ : List Int,y_ = (([] : List Int)):=⟨_,rfl⟩
  replace H : (impl_Space_text.l0 k a1 (⟨#[]⟩ : ByteArray) y307 t303 (t303.length : Int) 0) = some (r1,r2,r3):=by first|(rw [hy307];with_reducible exact H)|(have H2_:=(Option.bind_some _ _).symm.trans H;rw [hy307];with_reducible exact H2_)|(have H2_:=(Option.bind_some _ _).symm.trans H;with_reducible exact H2_)|with_reducible exact H|(rw [hy307];exact H)|exact H
  have Ny307:=Aside0.mk hy307
  clear hy307
  have H':=Aside0.mk H
  clear H
  go_enter Try.func44,Try.ntmps44
  go_wp2_with (first|((with_reducible refine gate_callee (f:=68) rfl ?_);refine goesL_ (some 16) rfl rfl Try.func68 (by kernel_rfl) rfl #[.pointer (some ⟨g0_,0,none⟩),.int .i64 a1] rfl (by (try simp only [List.map_toArray,List.map_cons,List.map_nil]);first|done|rfl|(simp only [List.length_drop,List.length_take];rfl)) ?_;(with_reducible refine (impl_Space_pieces.calls k g0_ A0_0 c0_0 l0_0 A0_1 c0_1 l0_1 A0_2 c0_2 l0_2 A0_3 c0_3 l0_3 a1 t303 true _ ?side1 ?side2 ?side3 ?side4 ?side5 ?side6 ?side7 ?side8 ?side9 A3.out).mono ?_);(case side1=>exact by (with_reducible repeat first|apply blk_drewN|apply blk_drew|apply blk_alloc);exact BK0.out);(case side2=>repeat (first|exact HR0_0.out|(with_reducible first|apply Kd.C_alloc|apply Kd.C_drewN|apply Kd.C_drew)));(case side3=>exact HC0_0.out);(case side4=>repeat (first|exact HR0_1.out|(with_reducible first|apply Kd.C_alloc|apply Kd.C_drewN|apply Kd.C_drew)));(case side5=>exact HC0_1.out);(case side6=>repeat (first|exact HR0_2.out|(with_reducible first|apply Kd.C_alloc|apply Kd.C_drewN|apply Kd.C_drew)));(case side7=>exact HC0_2.out);(case side8=>repeat (first|exact HR0_3.out|(with_reducible first|apply Kd.C_alloc|apply Kd.C_drewN|apply Kd.C_drew)));(case side9=>exact HC0_3.out);rintro e w5 ⟨v304,rfl,ho0,hb⟩;refine ⟨_,rfl,?_⟩;have n0_:=Aside0.mk (Kd.R_lower ho0 (below_size (by repeat (first|(with_reducible first|exact HB.out|apply below_alloc|apply pw_below_drewN|apply below_drew1|refine below_set ?_ GE0.out)|exact HB.out))));have n1_:=Aside0.mk (blk_below (g:=g0_) (o:=.cells #[.slice A0_0 l0_0.length c0_0,.slice A0_1 l0_1.length c0_1,.slice A0_2 l0_2.length c0_2,.slice A0_3 l0_3.length c0_3] 28 (0,0)) (by (with_reducible repeat first|apply blk_drewN|apply blk_drew|apply blk_alloc);exact BK0.out) hb);have n2_:=Aside0.mk (below_step (by repeat (first|(with_reducible first|exact HB.out|apply below_alloc|apply pw_below_drewN|apply below_drew1|refine below_set ?_ GE0.out)|exact HB.out)) hb);clear BK0;clear HB;have HO305:=n0_;have BK0:=n1_;have HB:=n2_;clear n0_ n1_ n2_;(try clear hb);(try clear hb2);(try clear hk);(try clear hi);(try clear ho0))|((with_reducible refine gate_dst (N:=21) rfl ?_);refine Kd.R_lit (Kd.int .i64) _ 3 ?hg (N:=21) ?hd (xs:=([] : List Int)) (inner:=[]) (ok:=fun _=>True) (okp:=fun _=>True) ?hr ?hp (fun _ hk=>hk) trivial (Below.refl _ _) (Nat.le_refl _) (by simp) ?_;(case hd=>rfl);(case hg=>rfl);(case hr=>first|(go_simp;done)|(go_simp;rfl));(case hp=>exact (Reps.none _ _));intro v308 w6 ho7 hb hg_ hnew_;clear hg_ hnew_;(first|rw [← Ny307.out] at ho7|(simp only [Int.reduceToNat] at ho7;rw [← Ny307.out] at ho7));have n0_:=Aside0.mk (Kd.R_below (by (with_reducible repeat (first|apply Kd.R_alloc|apply Kd.R_drewN|apply Kd.R_drew));exact HO305.out) hb);have n1_:=Aside0.mk (Kd.R_lower ho7 (below_size (by repeat (first|(with_reducible first|exact HB.out|apply below_alloc|apply pw_below_drewN|apply below_drew1|refine below_set ?_ GE0.out)|exact HB.out))));have n2_:=Aside0.mk (blk_below (g:=g0_) (o:=.cells #[.slice A0_0 l0_0.length c0_0,.slice A0_1 l0_1.length c0_1,.slice A0_2 l0_2.length c0_2,.slice A0_3 l0_3.length c0_3] 28 (0,0)) (by (with_reducible repeat first|apply blk_drewN|apply blk_drew|apply blk_alloc);exact BK0.out) hb);have n3_:=Aside0.mk (below_step (by repeat (first|(with_reducible first|exact HB.out|apply below_alloc|apply pw_below_drewN|apply below_drew1|refine below_set ?_ GE0.out)|exact HB.out)) hb);clear HO305;clear BK0;clear HB;have HO305:=n0_;have HO309:=n1_;have BK0:=n2_;have HB:=n3_;clear n0_ n1_ n2_ n3_;clear hb ho7;obtain ⟨Ao8,co8,eo8⟩:=Kd.R_slice HO305.out;subst eo8))
  go_loopg [9,10,24] k (fun kq v9 v10 v24 w'=>∃ (x9_1 : ByteArray) (x10_1 : List Int) (x24_1 : Int),v9 = .string x9_1∧v24 = .int .i64 x24_1∧Aside0 (impl_Space_text.l0 kq a1 x9_1 x10_1 t303 (t303.length : Int) x24_1 = some (r1,r2,r3))∧Aside0 (kq ≤ k)∧Aside0 (Kd.R (Kd.int .i64) 3 w' w.heap.size (fun _=>True) v10 x10_1)∧Aside0 (Kd.R k80 80 w' w.heap.size (fun _=>True) (.slice Ao8 t303.length co8) t303)∧Aside0 (w'.heap[g0_]? = some (.cells #[(.slice A0_0 l0_0.length c0_0),(.slice A0_1 l0_1.length c0_1),(.slice A0_2 l0_2.length c0_2),(.slice A0_3 l0_3.length c0_3)] 28 (0,0)))∧Aside0 (Below w.heap.size w w'))
  case atStart=>exact ⟨((⟨#[]⟩ : ByteArray)),(y307),(0),(by first|rfl|(simp;done)|(simp [*];done)),(by first|rfl|(simp;done)|(simp [*];done)),H',⟨Nat.le_refl _⟩,⟨by (with_reducible repeat (first|apply Kd.R_alloc|apply Kd.R_drewN|apply Kd.R_drew));exact HO309.out⟩,⟨by (with_reducible repeat (first|apply Kd.R_alloc|apply Kd.R_drewN|apply Kd.R_drew));exact HO305.out⟩,⟨by (with_reducible repeat first|apply blk_drewN|apply blk_drew|apply blk_alloc);exact BK0.out⟩,⟨by repeat (first|(with_reducible first|exact HB.out|apply below_alloc|apply pw_below_drewN|apply below_drew1|refine below_set ?_ GE0.out)|exact HB.out)⟩⟩
  case round =>
   clear H'
   try clear p2;try clear c4;try clear c6
   obtain ⟨x9_1,x10_1,x24_1,rfl,rfl,HA,HK1,HO_10,HO_22,BK0,HB⟩:=hrel
   cases gk with
   | zero=>exact absurd HA.out (by simp [impl_Space_text.l0])
   | succ k1 =>
    have H:=HA.out
    clear HA
    simp only [impl_Space_text.l0] at H
    by_cases c9 : x24_1 < (t303.length : Int)
    ·rw [if_pos c9] at H
     have c9b0 : decide (x24_1 < (t303.length : Int)) = true:=decide_eq_true c9
     clear c9
     by_cases c10 : 0 ≤ x24_1
     ·rw [if_pos c10] at H
      have c10b0 : decide (0 ≤ x24_1) = true:=decide_eq_true c10
      clear c10
      by_cases c11 : x24_1 < (t303.length : Int)
      ·rw [if_pos c11] at H
       have c11b0 : decide (x24_1 < (t303.length : Int)) = true:=decide_eq_true c11
       clear c11
       by_cases c12 : x9_1.size + ((rd_T80 t303 x24_1).f2).size ≤ 9223372036854775807
       ·rw [if_pos c12] at H
        have c12b0:=eq_true c12
        have c12b1 : decide (x9_1.size + ((rd_T80 t303 x24_1).f2).size ≤ 9223372036854775807) = true:=decide_eq_true c12
        try have c12b2 : (9223372036854775807 < x9_1.size + ((rd_T80 t303 x24_1).f2).size) = False:=eq_false (Nat.not_lt.2 c12)
        by_cases c13 : x10_1.length < 17592186044416
        ·rw [if_pos c13] at H
         have LMc13:=Aside0.mk c13
         clear c13
         obtain ⟨y312,hy312⟩ : ∃ y_ : List Int,y_ = (x10_1 ++ [(rd_T80 t303 x24_1).f0]):=⟨_,rfl⟩
         replace H : (impl_Space_text.l0 k1 a1 (x9_1 ++ ((rd_T80 t303 x24_1).f2)) y312 t303 (t303.length : Int) (wrap64 (x24_1 + 1))) = some (r1,r2,r3):=by first|(rw [hy312];with_reducible exact H)|(have H2_:=(Option.bind_some _ _).symm.trans H;rw [hy312];with_reducible exact H2_)|(have H2_:=(Option.bind_some _ _).symm.trans H;with_reducible exact H2_)|with_reducible exact H|(rw [hy312];exact H)|exact H
         have Ny312:=Aside0.mk hy312
         clear hy312
         have H':=Aside0.mk H
         clear H
         have p310 : 0 ≤ (x24_1 : Int):=of_decide_eq_true (by assumption)
         have q310 : x24_1 < (t303.length : Int):=of_decide_eq_true (by assumption)
         obtain ⟨ad310,e310,hx310_0,hx310_1,hx310_2⟩:=at_T80 (Kd.R_reads' HO_22.out).2.2 x24_1 p310 q310
         cases e310
         replace p310:=eq_true p310
         replace q310:=eq_true q310
         try go_wp2_with (first|((with_reducible refine gate_dst (N:=12) rfl ?_);refine box_event ?hg (N:=12) ?hd (cs:=#[.int .i64 0,.int .i64 0,.string (⟨#[]⟩ : ByteArray)]) (t:=80) ?hr ?_;(case hd=>rfl);(case hg=>rfl);(case hr=>first|(go_simp;done)|(go_simp;rfl));intro gb311 hg w14 hbox hb;have n0_:=Aside0.mk (Kd.R_below (by (with_reducible repeat (first|apply Kd.R_alloc|apply Kd.R_drewN|apply Kd.R_drew));exact HO_10.out) hb);have n1_:=Aside0.mk (Kd.R_below (Kd.R_elderB (by (with_reducible repeat (first|apply Kd.R_alloc|apply Kd.R_drewN|apply Kd.R_drew));exact HO_22.out) gb311 (Nat.le_of_eq hg.symm)) hb);have n2_:=Aside0.mk (blk_below (g:=g0_) (o:=.cells #[.slice A0_0 l0_0.length c0_0,.slice A0_1 l0_1.length c0_1,.slice A0_2 l0_2.length c0_2,.slice A0_3 l0_3.length c0_3] 28 (0,0)) (by (with_reducible repeat first|apply blk_drewN|apply blk_drew|apply blk_alloc);exact BK0.out) hb);have n3_:=Aside0.mk (below_step (by repeat (first|(with_reducible first|exact HB.out|apply below_alloc|apply pw_below_drewN|apply below_drew1|refine below_set ?_ GE0.out)|exact HB.out)) hb);have n4_:=Aside0.mk (hbox);have n5_:=Aside0.mk ((by rw [hg];exact (below_size (by repeat (first|(with_reducible first|exact HB.out|apply below_alloc|apply pw_below_drewN|apply below_drew1|refine below_set ?_ GE0.out)|exact HB.out))) : w.heap.size ≤ gb311));have n6_:=Aside0.mk ((by rw [hg];exact (below_size (by repeat (first|(with_reducible first|exact HB.out|apply below_alloc|apply pw_below_drewN|apply below_drew1|refine below_set ?_ GE0.out)|exact HB.out))) : w.heap.size ≤ gb311));have n7_:=Aside0.mk ((by rw [hg];exact Nat.ne_of_lt (blk_lt (g:=g0_) (o:=.cells #[.slice A0_0 l0_0.length c0_0,.slice A0_1 l0_1.length c0_1,.slice A0_2 l0_2.length c0_2,.slice A0_3 l0_3.length c0_3] 28 (0,0)) (by (with_reducible repeat first|apply blk_drewN|apply blk_drew|apply blk_alloc);exact BK0.out)) : g0_ ≠ gb311));have n8_:=Aside0.mk ((by rw [hg];exact Nat.ne_of_gt (blk_lt (g:=g0_) (o:=.cells #[.slice A0_0 l0_0.length c0_0,.slice A0_1 l0_1.length c0_1,.slice A0_2 l0_2.length c0_2,.slice A0_3 l0_3.length c0_3] 28 (0,0)) (by (with_reducible repeat first|apply blk_drewN|apply blk_drew|apply blk_alloc);exact BK0.out)) : gb311 ≠ g0_));clear HO_10;clear HO_22;clear BK0;clear HB;have HO_10:=n0_;have HO_22:=n1_;have BK0:=n2_;have HB:=n3_;have BK311:=n4_;have GW311:=n5_;have GE311:=n6_;have NB0_311:=n7_;have NB311_0:=n8_;clear n0_ n1_ n2_ n3_ n4_ n5_ n6_ n7_ n8_;clear hb hbox hg;have hnb15:=NB311_0.out;have hnc15:=NB0_311.out;have hcz16_0 : w14.cell? ⟨gb311,0,none⟩ = some (.int .i64 0):=(blk_cell BK311.out 0).trans rfl;have hcz16_1 : w14.cell? ⟨gb311,1,none⟩ = some (.int .i64 0):=(blk_cell BK311.out 1).trans rfl;have hcz16_2 : w14.cell? ⟨gb311,2,none⟩ = some (.string (⟨#[]⟩ : ByteArray)):=(blk_cell BK311.out 2).trans rfl;have hfz16_0:=blk_frozen BK311.out 0;have hfz16_1:=blk_frozen BK311.out 1;have hfz16_2:=blk_frozen BK311.out 2))
         have n0_ : Aside0 (Kd.R (Kd.int .i64) 3 (((w14.setCell ⟨gb311,0,none⟩ (.int .i64 ((rd_T80 t303 x24_1).f0))).setCell ⟨gb311,1,none⟩ (.int .i64 ((rd_T80 t303 x24_1).f1))).setCell ⟨gb311,2,none⟩ (.string ((rd_T80 t303 x24_1).f2))) w.heap.size (fun _=>True) u10 x10_1):=⟨by (with_reducible repeat (first|apply Kd.R_alloc|apply Kd.R_drewN|apply Kd.R_drew));exact Kd.R_mono (Kd.R_far (p:=⟨gb311,2,none⟩) (Kd.R_far (p:=⟨gb311,1,none⟩) (Kd.R_far (p:=⟨gb311,0,none⟩) (Kd.R_types HO_10.out BK311.out (by decide)) (fun _ hk=>hk.2) (.int .i64 ((rd_T80 t303 x24_1).f0))) (fun _ hk=>hk.2) (.int .i64 ((rd_T80 t303 x24_1).f1))) (fun _ hk=>hk.2) (.string ((rd_T80 t303 x24_1).f2))) (fun _ hk=>trivial)⟩
         have n1_ : Aside0 (Kd.R k80 80 (((w14.setCell ⟨gb311,0,none⟩ (.int .i64 ((rd_T80 t303 x24_1).f0))).setCell ⟨gb311,1,none⟩ (.int .i64 ((rd_T80 t303 x24_1).f1))).setCell ⟨gb311,2,none⟩ (.string ((rd_T80 t303 x24_1).f2))) w.heap.size (fun k_=>k_ ≠ gb311) (.slice (some ad310) t303.length co8) t303):=⟨by (with_reducible repeat (first|apply Kd.R_alloc|apply Kd.R_drewN|apply Kd.R_drew));exact Kd.R_mono (Kd.R_far (p:=⟨gb311,2,none⟩) (Kd.R_far (p:=⟨gb311,1,none⟩) (Kd.R_far (p:=⟨gb311,0,none⟩) (Kd.R_mono HO_22.out (fun k_ hk=>(⟨hk,hk.2⟩ : _∧k_ ≠ gb311))) (fun _ hk=>hk.2) (.int .i64 ((rd_T80 t303 x24_1).f0))) (fun _ hk=>hk.2) (.int .i64 ((rd_T80 t303 x24_1).f1))) (fun _ hk=>hk.2) (.string ((rd_T80 t303 x24_1).f2))) (fun _ hk=>hk.1.2)⟩
         have n2_ : Aside0 ((((w14.setCell ⟨gb311,0,none⟩ (.int .i64 ((rd_T80 t303 x24_1).f0))).setCell ⟨gb311,1,none⟩ (.int .i64 ((rd_T80 t303 x24_1).f1))).setCell ⟨gb311,2,none⟩ (.string ((rd_T80 t303 x24_1).f2))).heap[g0_]? = some (.cells #[.slice A0_0 l0_0.length c0_0,.slice A0_1 l0_1.length c0_1,.slice A0_2 l0_2.length c0_2,.slice A0_3 l0_3.length c0_3] 28 (0,0))):=⟨by (with_reducible repeat first|apply blk_drewN|apply blk_drew|apply blk_alloc);refine blk_far ?_ NB0_311.out _;(with_reducible repeat first|apply blk_drewN|apply blk_drew|apply blk_alloc);refine blk_far ?_ NB0_311.out _;(with_reducible repeat first|apply blk_drewN|apply blk_drew|apply blk_alloc);refine blk_far ?_ NB0_311.out _;(with_reducible repeat first|apply blk_drewN|apply blk_drew|apply blk_alloc);exact BK0.out⟩
         have n3_ : Aside0 ((((w14.setCell ⟨gb311,0,none⟩ (.int .i64 ((rd_T80 t303 x24_1).f0))).setCell ⟨gb311,1,none⟩ (.int .i64 ((rd_T80 t303 x24_1).f1))).setCell ⟨gb311,2,none⟩ (.string ((rd_T80 t303 x24_1).f2))).heap[gb311]? = some (.cells #[.int .i64 ((rd_T80 t303 x24_1).f0),.int .i64 ((rd_T80 t303 x24_1).f1),.string ((rd_T80 t303 x24_1).f2)] 80 (0,0))):=⟨by (with_reducible repeat first|apply blk_drewN|apply blk_drew|apply blk_alloc);refine blk_put (cs:=#[.int .i64 ((rd_T80 t303 x24_1).f0),.int .i64 ((rd_T80 t303 x24_1).f1),.string (⟨#[]⟩ : ByteArray)]) ?_ 2 _ rfl;(with_reducible repeat first|apply blk_drewN|apply blk_drew|apply blk_alloc);refine blk_put (cs:=#[.int .i64 ((rd_T80 t303 x24_1).f0),.int .i64 0,.string (⟨#[]⟩ : ByteArray)]) ?_ 1 _ rfl;(with_reducible repeat first|apply blk_drewN|apply blk_drew|apply blk_alloc);refine blk_put (cs:=#[.int .i64 0,.int .i64 0,.string (⟨#[]⟩ : ByteArray)]) ?_ 0 _ rfl;(with_reducible repeat first|apply blk_drewN|apply blk_drew|apply blk_alloc);exact BK311.out⟩
         have n4_ : Aside0 (Below w.heap.size w (((w14.setCell ⟨gb311,0,none⟩ (.int .i64 ((rd_T80 t303 x24_1).f0))).setCell ⟨gb311,1,none⟩ (.int .i64 ((rd_T80 t303 x24_1).f1))).setCell ⟨gb311,2,none⟩ (.string ((rd_T80 t303 x24_1).f2)))):=⟨by repeat (first|(with_reducible first|exact HB.out|apply below_alloc|apply pw_below_drewN|apply below_drew1|refine below_set ?_ GE0.out|refine below_set ?_ GE311.out)|exact HB.out)⟩
         (try clear HO_10)
         (try clear HO_22)
         (try clear BK0)
         (try clear BK311)
         (try clear HB)
         generalize (((w14.setCell ⟨gb311,0,none⟩ (.int .i64 ((rd_T80 t303 x24_1).f0))).setCell ⟨gb311,1,none⟩ (.int .i64 ((rd_T80 t303 x24_1).f1))).setCell ⟨gb311,2,none⟩ (.string ((rd_T80 t303 x24_1).f2))) = w17 at n0_ n1_ n2_ n3_ n4_ ⊢
         have HO_10:=n0_
         have HO_22:=n1_
         have BK0:=n2_
         have BK311:=n3_
         have HB:=n4_
         clear n0_ n1_ n2_ n3_ n4_
         have n0_:=Aside0.mk (Kd.R_drew HO_10.out)
         have n1_:=Aside0.mk (Kd.R_drew HO_22.out)
         have n2_:=Aside0.mk (blk_drew BK0.out)
         have n3_:=Aside0.mk (blk_drew BK311.out)
         have n4_:=Aside0.mk (below_drew1 HB.out)
         clear HO_10
         clear HO_22
         clear BK0
         clear BK311
         clear HB
         have HO_10:=n0_
         have HO_22:=n1_
         have BK0:=n2_
         have BK311:=n3_
         have HB:=n4_
         clear n0_ n1_ n2_ n3_ n4_
         refine start_ (n:=11) (S:=fun w'=>w'.cell? ⟨gb311,0,none⟩ = some (.int .i64 ((rd_T80 t303 x24_1).f0))∧w'.cell? ⟨gb311,1,none⟩ = some (.int .i64 ((rd_T80 t303 x24_1).f1))∧w'.cell? ⟨gb311,2,none⟩ = some (.string ((rd_T80 t303 x24_1).f2))) (ds:=[]) #[false,false,false,false,false,false,false,false,false,false,false] (by kernel_rfl) rfl rfl ⟨(blk_cell BK311.out 0).trans rfl,(blk_cell BK311.out 1).trans rfl,(blk_cell BK311.out 2).trans rfl⟩ (fun hHeld=>?_);refine with_tabW impl_Space_text.tab8 impl_Space_text.bits8 (fun HT_ HW_=>?_)
         generalize w17.drew = w18 at HO_10 HO_22 BK0 BK311 HB hHeld ⊢
         refine pure_ (i:=0) (N:=some 28) (v:=?_) (a':=?_) #[true,false,false,false,false,false,false,false,false,false,false] rfl rfl (any_of HT_.out (by kernel_rfl)) (fun _ _ _ h=>h) (Or.inl ⟨by rfl,?_⟩) ?_ ?_
         rotate_left
         ·intro w'
          go_simp
          with_reducible rfl
         rotate_left
         ·simp only [Act.put,List.setIfInBounds_toArray,List.set_cons_zero,List.set_cons_succ,i64_w,i32_w]
          rfl
         refine pure_ (i:=1) (N:=some 29) (v:=?_) (a':=?_) #[true,true,false,false,false,false,false,false,false,false,false] rfl rfl (any_of HT_.out (by kernel_rfl)) (fun _ _ _ h=>h) (Or.inl ⟨by rfl,?_⟩) ?_ ?_
         rotate_left
         ·intro w'
          go_simp
          with_reducible rfl
         rotate_left
         ·simp only [Act.put,List.setIfInBounds_toArray,List.set_cons_zero,List.set_cons_succ,i64_w,i32_w]
          rfl
         refine pure_ (i:=4) (N:=some 32) (v:=?_) (a':=?_) #[true,true,false,false,true,false,false,false,false,false,false] rfl rfl (any_of HT_.out (by kernel_rfl)) (fun _ _ _ h=>h) (Or.inl ⟨by rfl,?_⟩) ?_ ?_
         rotate_left
         ·intro w'
          go_simp
          with_reducible rfl
         rotate_left
         ·simp only [Act.put,List.setIfInBounds_toArray,List.set_cons_zero,List.set_cons_succ,i64_w,i32_w]
          rfl
         refine pure_ (i:=5) (N:=some 33) (v:=?_) (a':=?_) #[true,true,false,false,true,true,false,false,false,false,false] rfl rfl (any_of HT_.out (by kernel_rfl)) (fun _ _ _ h=>h) (Or.inl ⟨by rfl,?_⟩) ?_ ?_
         rotate_left
         ·intro w'
          go_simp
          with_reducible rfl
         rotate_left
         ·simp only [Act.put,List.setIfInBounds_toArray,List.set_cons_zero,List.set_cons_succ,i64_w,i32_w]
          rfl
         refine take_ (i:=2) (N:=some 30) (v:=?_) (a':=?_) #[true,true,true,false,true,true,false,false,false,false,false] rfl rfl (take_ofW HT_.out HW_.out (by kernel_rfl)) (fun _ _ _ h=>h) (Or.inl ⟨by rfl,?_⟩) hHeld ?_ ?_
         rotate_left
         ·rintro w' ⟨s0,s1,s2⟩
          go_simp
          with_reducible rfl
         rotate_left
         ·simp only [Act.put,List.setIfInBounds_toArray,List.set_cons_zero,List.set_cons_succ,i64_w,i32_w]
          rfl
         refine pure_ (i:=3) (N:=some 31) (v:=?_) (a':=?_) #[true,true,true,true,true,true,false,false,false,false,false] rfl rfl (any_of HT_.out (by kernel_rfl)) (fun _ _ _ h=>h) (Or.inl ⟨by rfl,?_⟩) ?_ ?_
         rotate_left
         ·intro w'
          go_simp
          with_reducible rfl
         rotate_left
         ·simp only [Act.put,List.setIfInBounds_toArray,List.set_cons_zero,List.set_cons_succ,i64_w,i32_w]
          rfl
         refine take_ (i:=6) (N:=some 34) (v:=?_) (a':=?_) #[true,true,true,true,true,true,true,false,false,false,false] rfl rfl (take_ofW HT_.out HW_.out (by kernel_rfl)) (fun _ _ _ h=>h) (Or.inl ⟨by rfl,?_⟩) hHeld ?_ ?_
         rotate_left
         ·rintro w' ⟨s0,s1,s2⟩
          go_simp
          with_reducible rfl
         rotate_left
         ·simp only [Act.put,List.setIfInBounds_toArray,List.set_cons_zero,List.set_cons_succ,i64_w,i32_w]
          rfl
         refine one_ (i:=7) (N:=some 35) #[true,true,true,true,true,true,true,true,false,false,false] rfl rfl (one_of HT_.out (by kernel_rfl)) (by decide) (fun K hK=>?_)
         refine value_ (w1:=?_) (v:=?_) (by rfl) rfl ?_ ?_
         rotate_left 2
         ·go_simp
          constructor
          ·rfl
          ·rfl
         refine hK.out _ _ ⟨(blk_cell (blk_alloc BK311.out _) 0).trans rfl,(blk_cell (blk_alloc BK311.out _) 1).trans rfl,(blk_cell (blk_alloc BK311.out _) 2).trans rfl⟩ (fun hHeld=>?_)
         clear hK K
         refine norm_ (a':=?_) ?_ ?_
         rotate_left
         ·show Act.put _ (some 35) _ = _
          simp only [Act.put,List.setIfInBounds_toArray,List.set_cons_zero,List.set_cons_succ,i64_w,i32_w]
          rfl
         refine one_ (i:=8) (N:=some 36) #[true,true,true,true,true,true,true,true,true,false,false] rfl rfl (one_of HT_.out (by kernel_rfl)) (by decide) (fun K hK=>?_)
         refine Kd.R_append_step (Kd.int .i64) (w0:=w) w.heap.size (by rfl) (.tmp 32) (.tmp 35) 24 3 (.int .i64 0) 8 rfl Try.underlying24 info3 rfl (by decide) (by omega) u10 x10_1 ((rd_T80 t303 x24_1).f0) [.int .i64 ((rd_T80 t303 x24_1).f0)] (fun _=>True) (fun _=>False) rfl rfl ?aP (fun _ hk=>hk.elim) ?aF ?aO ?aB ?aS ?aL ?_
         (case aP=>exact rfl)
         (case aB=>exact (by repeat (first|(with_reducible first|exact HB.out|apply below_alloc|apply pw_below_drewN|apply below_drew1|refine below_set ?_ GE0.out|refine below_set ?_ GE311.out)|exact HB.out)))
         (case aF=>exact (fun _ _=>trivial))
         (case aO=>exact (by (with_reducible repeat (first|apply Kd.R_alloc|apply Kd.R_drewN|apply Kd.R_drew));exact HO_10.out))
         (case aS=>exact (below_size (by repeat (first|(with_reducible first|exact HB.out|apply below_alloc|apply pw_below_drewN|apply below_drew1|refine below_set ?_ GE0.out|refine below_set ?_ GE311.out)|exact HB.out))))
         (case aL=>have:=LMc13.out;omega)
         intro v313 w19 ho hb hg hat
         rw [← Ny312.out] at ho
         have n0_:=Aside0.mk (Kd.R_over' (by (with_reducible repeat (first|apply Kd.R_alloc|apply Kd.R_drewN|apply Kd.R_drew));exact HO_22.out) (Kd.R_typed (by (with_reducible repeat (first|apply Kd.R_alloc|apply Kd.R_drewN|apply Kd.R_drew));exact HO_10.out)) (by decide) hg)
         have n1_:=Aside0.mk (blk_grown (g:=g0_) (o:=.cells #[.slice A0_0 l0_0.length c0_0,.slice A0_1 l0_1.length c0_1,.slice A0_2 l0_2.length c0_2,.slice A0_3 l0_3.length c0_3] 28 (0,0)) (by (with_reducible repeat first|apply blk_drewN|apply blk_drew|apply blk_alloc);exact BK0.out) hg (Kd.R_ne HO_10.out BK0.out (by decide)))
         have n2_:=Aside0.mk (blk_grown (g:=gb311) (o:=.cells #[.int .i64 ((rd_T80 t303 x24_1).f0),.int .i64 ((rd_T80 t303 x24_1).f1),.string ((rd_T80 t303 x24_1).f2)] 80 (0,0)) (by (with_reducible repeat first|apply blk_drewN|apply blk_drew|apply blk_alloc);exact BK311.out) hg (Kd.R_ne HO_10.out BK311.out (by decide)))
         have n3_:=Aside0.mk (hb)
         have n4_:=Aside0.mk (ho)
         clear HO_22
         clear BK0
         clear BK311
         clear HB
         clear HO_10
         have HO_22:=n0_
         have BK0:=n1_
         have BK311:=n2_
         have HB:=n3_
         have HO314:=n4_
         clear n0_ n1_ n2_ n3_ n4_
         clear ho hb hg hat
         refine hK.out _ _ ⟨(blk_cell BK311.out 0).trans rfl,(blk_cell BK311.out 1).trans rfl,(blk_cell BK311.out 2).trans rfl⟩ (fun hHeld=>?_)
         clear hK K
         refine norm_ (a':=?_) ?_ ?_
         rotate_left
         ·show Act.put _ (some 36) _ = _
          simp only [Act.put,List.setIfInBounds_toArray,List.set_cons_zero,List.set_cons_succ,i64_w,i32_w]
          rfl
         refine pure_ (i:=9) (N:=some 9) (v:=?_) (a':=?_) #[true,true,true,true,true,true,true,true,true,true,false] rfl rfl (any_of HT_.out (by kernel_rfl)) (fun _ _ _ h=>h) (Or.inl ⟨by rfl,?_⟩) ?_ ?_
         rotate_left
         ·intro w'
          go_simp
          with_reducible rfl
         rotate_left
         ·simp only [Act.put,List.setIfInBounds_toArray,List.set_cons_zero,List.set_cons_succ,i64_w,i32_w]
          rfl
         refine pure_ (i:=10) (N:=some 10) (v:=?_) (a':=?_) #[true,true,true,true,true,true,true,true,true,true,true] rfl rfl (any_of HT_.out (by kernel_rfl)) (fun _ _ _ h=>h) (Or.inl ⟨by rfl,?_⟩) ?_ ?_
         rotate_left
         ·intro w'
          go_simp
          with_reducible rfl
         rotate_left
         ·simp only [Act.put,List.setIfInBounds_toArray,List.set_cons_zero,List.set_cons_succ,i64_w,i32_w]
          rfl
         refine done_ (done_of HT_.out (by kernel_rfl)) ?_
         try go_wp2
         go_roundg k1
         case measure=>have:=HK1.out;omega
         case rel=>exact ⟨(x9_1 ++ ((rd_T80 t303 x24_1).f2)),(y312),(wrap64 (x24_1 + 1)),(by first|rfl|(simp;done)|(simp [*];done)),(by first|rfl|(simp;done)|(simp [*];done)),H',⟨by have:=HK1.out;omega⟩,⟨by (with_reducible repeat (first|apply Kd.R_alloc|apply Kd.R_drewN|apply Kd.R_drew));exact HO314.out⟩,⟨by (with_reducible repeat (first|apply Kd.R_alloc|apply Kd.R_drewN|apply Kd.R_drew));exact Kd.R_mono HO_22.out (fun _ hk=>trivial)⟩,⟨by (with_reducible repeat first|apply blk_drewN|apply blk_drew|apply blk_alloc);exact BK0.out⟩,⟨by repeat (first|(with_reducible first|exact HB.out|apply below_alloc|apply pw_below_drewN|apply below_drew1|refine below_set ?_ GE0.out|refine below_set ?_ GE311.out)|exact HB.out)⟩⟩
        ·rw [if_neg c13] at H
         exact absurd H (by simp)
       ·rw [if_neg c12] at H
        exact absurd H (by simp)
      ·rw [if_neg c11] at H
       exact absurd H (by simp)
     ·rw [if_neg c10] at H
      exact absurd H (by simp)
    ·rw [if_neg c9] at H
     have c9b0 : decide (x24_1 < (t303.length : Int)) = false:=decide_eq_false c9
     clear c9
     by_cases c20 : x10_1.length < 17592186044416
     ·rw [if_pos c20] at H
      have LMc20:=Aside0.mk c20
      clear c20
      obtain ⟨y315,hy315⟩ : ∃ y_ : List Int,y_ = (x10_1 ++ [a1]):=⟨_,rfl⟩
      replace H : (some (x9_1,y315,true)) = some (r1,r2,r3):=by first|(rw [hy315];with_reducible exact H)|(have H2_:=(Option.bind_some _ _).symm.trans H;rw [hy315];with_reducible exact H2_)|(have H2_:=(Option.bind_some _ _).symm.trans H;with_reducible exact H2_)|with_reducible exact H|(rw [hy315];exact H)|exact H
      have Ny315:=Aside0.mk hy315
      clear hy315
      simp only [Option.some.injEq,Prod.mk.injEq] at H
      obtain ⟨rfl,rfl,rfl⟩:=H
      go_wp2_with (first|((with_reducible refine gate_builtin (b:=.append) (xs:=#[.tmp 39,.tmp 41]) rfl ?_);at_builtin;refine Kd.R_append (Kd.int .i64) (w0:=w) w.heap.size rfl (.tmp 39) (.tmp 41) 24 3 (.int .i64 0) 8 rfl Try.underlying24 info3 rfl (by decide) (by omega) u10 x10_1 a1 [.int .i64 a1] (fun _=>True) (fun _=>False) rfl rfl ?aP (fun _ hk=>hk.elim) ?aF ?aO ?aB ?aS ?aL ?_;(case aP=>exact rfl);(case aB=>exact (by repeat (first|(with_reducible first|exact HB.out|apply below_alloc|apply pw_below_drewN|apply below_drew1|refine below_set ?_ GE0.out)|exact HB.out)));(case aF=>exact (fun _ _=>trivial));(case aO=>exact (by (with_reducible repeat (first|apply Kd.R_alloc|apply Kd.R_drewN|apply Kd.R_drew));exact HO_10.out));(case aS=>exact (below_size (by repeat (first|(with_reducible first|exact HB.out|apply below_alloc|apply pw_below_drewN|apply below_drew1|refine below_set ?_ GE0.out)|exact HB.out))));(case aL=>have:=LMc20.out;omega);intro v316 w21 ho hb hg hat;rw [← Ny315.out] at ho;have n0_:=Aside0.mk (Kd.R_over' (by (with_reducible repeat (first|apply Kd.R_alloc|apply Kd.R_drewN|apply Kd.R_drew));exact HO_22.out) (Kd.R_typed (by (with_reducible repeat (first|apply Kd.R_alloc|apply Kd.R_drewN|apply Kd.R_drew));exact HO_10.out)) (by decide) hg);have n1_:=Aside0.mk (blk_grown (g:=g0_) (o:=.cells #[.slice A0_0 l0_0.length c0_0,.slice A0_1 l0_1.length c0_1,.slice A0_2 l0_2.length c0_2,.slice A0_3 l0_3.length c0_3] 28 (0,0)) (by (with_reducible repeat first|apply blk_drewN|apply blk_drew|apply blk_alloc);exact BK0.out) hg (Kd.R_ne HO_10.out BK0.out (by decide)));have n2_:=Aside0.mk (hb);have n3_:=Aside0.mk (ho);clear HO_22;clear BK0;clear HB;clear HO_10;have HO_22:=n0_;have BK0:=n1_;have HB:=n2_;have HO317:=n3_;clear n0_ n1_ n2_ n3_;clear ho hb hg hat))
      go_ret3
      exact ⟨_,by first|rfl|(simp [*,errW_none,errW_some] <;> rfl),by (with_reducible repeat (first|apply Kd.R_alloc|apply Kd.R_drewN|apply Kd.R_drew));exact HO317.out,by repeat (first|(with_reducible first|exact HB.out|apply below_alloc|apply pw_below_drewN|apply below_drew1|refine below_set ?_ GE0.out)|exact HB.out)⟩
     ·rw [if_neg c20] at H
      exact absurd H (by simp)
 ·replace c4:=Bool.eq_false_iff.mpr c4
  subst c4
  have H1 : (some ((⟨#[]⟩ : ByteArray),([] : List Int),false)) = some (r1,r2,r3):=by rw [if_neg (show ¬ (false = true) by decide)] at H;exact H
  clear H
  have H:=H1
  clear H1
  simp only [Option.some.injEq,Prod.mk.injEq] at H
  obtain ⟨rfl,rfl,rfl⟩:=H
  go_enter Try.func44,Try.ntmps44
  go_wp2_with (first|((with_reducible refine gate_callee (f:=68) rfl ?_);refine goesL_ (some 16) rfl rfl Try.func68 (by kernel_rfl) rfl #[.pointer (some ⟨g0_,0,none⟩),.int .i64 a1] rfl (by (try simp only [List.map_toArray,List.map_cons,List.map_nil]);first|done|rfl|(simp only [List.length_drop,List.length_take];rfl)) ?_;(with_reducible refine (impl_Space_pieces.calls k g0_ A0_0 c0_0 l0_0 A0_1 c0_1 l0_1 A0_2 c0_2 l0_2 A0_3 c0_3 l0_3 a1 t303 false _ ?side1 ?side2 ?side3 ?side4 ?side5 ?side6 ?side7 ?side8 ?side9 A3.out).mono ?_);(case side1=>exact by (with_reducible repeat first|apply blk_drewN|apply blk_drew|apply blk_alloc);exact BK0.out);(case side2=>repeat (first|exact HR0_0.out|(with_reducible first|apply Kd.C_alloc|apply Kd.C_drewN|apply Kd.C_drew)));(case side3=>exact HC0_0.out);(case side4=>repeat (first|exact HR0_1.out|(with_reducible first|apply Kd.C_alloc|apply Kd.C_drewN|apply Kd.C_drew)));(case side5=>exact HC0_1.out);(case side6=>repeat (first|exact HR0_2.out|(with_reducible first|apply Kd.C_alloc|apply Kd.C_drewN|apply Kd.C_drew)));(case side7=>exact HC0_2.out);(case side8=>repeat (first|exact HR0_3.out|(with_reducible first|apply Kd.C_alloc|apply Kd.C_drewN|apply Kd.C_drew)));(case side9=>exact HC0_3.out);rintro e w22 ⟨v304,rfl,ho0,hb⟩;refine ⟨_,rfl,?_⟩;have n0_:=Aside0.mk (Kd.R_lower ho0 (below_size (by repeat (first|(with_reducible first|exact HB.out|apply below_alloc|apply pw_below_drewN|apply below_drew1|refine below_set ?_ GE0.out)|exact HB.out))));have n1_:=Aside0.mk (blk_below (g:=g0_) (o:=.cells #[.slice A0_0 l0_0.length c0_0,.slice A0_1 l0_1.length c0_1,.slice A0_2 l0_2.length c0_2,.slice A0_3 l0_3.length c0_3] 28 (0,0)) (by (with_reducible repeat first|apply blk_drewN|apply blk_drew|apply blk_alloc);exact BK0.out) hb);have n2_:=Aside0.mk (below_step (by repeat (first|(with_reducible first|exact HB.out|apply below_alloc|apply pw_below_drewN|apply below_drew1|refine below_set ?_ GE0.out)|exact HB.out)) hb);clear BK0;clear HB;have HO305:=n0_;have BK0:=n1_;have HB:=n2_;clear n0_ n1_ n2_;(try clear hb);(try clear hb2);(try clear hk);(try clear hi);(try clear ho0)))
  go_ret3
  exact ⟨_,by first|rfl|(simp [*,errW_none,errW_some] <;> rfl),by first|exact Kd.R_nil _ _ _ _ _|exact Kd.N_nil _ _ _ _ _|exact Kd.V_nil _ _ _ _ _|exact Kd.Q_nil _ _ _ _ _|exact Kd.S_nil _ _ _ _ _,by repeat (first|(with_reducible first|exact HB.out|apply below_alloc|apply pw_below_drewN|apply below_drew1|refine below_set ?_ GE0.out)|exact HB.out)⟩

/-! ### impl_TextIn: function 23 -/
def impl_TextIn.f (k : Nat) (l0_0 : List (List Int)) (l0_1 : List Int) (l0_2 : List Int) (l0_3 : List Int) (a1 : Int) : Option (ByteArray × List Int × Bool):=(impl_GoodSpace.f k l0_0 l0_1 l0_2 l0_3).bind fun t319=>(if t319 = true then ((impl_Space_text.f k l0_0 l0_1 l0_2 l0_3 a1).bind fun bt320=>(some (bt320.1,bt320.2.1,bt320.2.2))) else (some ((⟨#[]⟩ : ByteArray),([] : List Int),false)))
theorem impl_TextIn.mono : ∀ a0 a1 a2 a3 a4 k,LeO (impl_TextIn.f k a0 a1 a2 a3 a4) (impl_TextIn.f (k + 1) a0 a1 a2 a3 a4):=by
 intro a0 a1 a2 a3 a4 k
 unfold impl_TextIn.f
 repeat' first
   | (with_reducible exact impl_GoodSpace.mono _ _ _ _ _)
   | (with_reducible exact impl_Space_text.mono _ _ _ _ _ _)
   | (with_reducible exact LeO.refl _)
   | (with_reducible exact LeO.none _)
   | (with_reducible refine LeO.ite ?_ ?_)
   | (with_reducible refine LeO.bind ?_ (fun _=>?_))
   | exact impl_GoodSpace.mono _ _ _ _ _
   | exact impl_Space_text.mono _ _ _ _ _ _
   | exact LeO.none _
   | refine LeO.ite ?_ ?_
   | refine LeO.bind ?_ (fun _=>?_)
set_option maxHeartbeats 8000000 in
set_option maxRecDepth 100000 in
theorem impl_TextIn.calls (k : Nat) (A0_0 : Option Addr) (c0_0 : Nat) (l0_0 : List (List Int)) (A0_1 : Option Addr) (c0_1 : Nat) (l0_1 : List Int) (A0_2 : Option Addr) (c0_2 : Nat) (l0_2 : List Int) (A0_3 : Option Addr) (c0_3 : Nat) (l0_3 : List Int) (a1 : Int) (r1 : ByteArray) (r2 : List Int) (r3 : Bool) (w : World) (hr0_0 : Kd.C (Kd.slice 5 (Kd.int .u8)) w A0_0 l0_0.length l0_0) (hc0_0 : l0_0.length ≤ c0_0) (hr0_1 : Kd.C (Kd.int .u8) w A0_1 l0_1.length l0_1) (hc0_1 : l0_1.length ≤ c0_1) (hr0_2 : Kd.C (Kd.int .i64) w A0_2 l0_2.length l0_2) (hc0_2 : l0_2.length ≤ c0_2) (hr0_3 : Kd.C (Kd.int .i64) w A0_3 l0_3.length l0_3) (hc0_3 : l0_3.length ≤ c0_3) (h : impl_TextIn.f k l0_0 l0_1 l0_2 l0_3 a1 = some (r1,r2,r3)) :
  Calls Try.prog 23 #[.agg #[.slice A0_0 l0_0.length c0_0,.slice A0_1 l0_1.length c0_1,.slice A0_2 l0_2.length c0_2,.slice A0_3 l0_3.length c0_3],.int .i64 a1] w fun e w'=>∃ v1_ : Value,e = .returned (.tuple #[.string r1,v1_,.bool r3])∧Kd.R (Kd.int .i64) 3 w' w.heap.size (fun _=>True) v1_ r2∧Below w.heap.size w w':=by
 have hu28:=Try.underlying28
 have HR0_0:=Aside0.mk hr0_0
 have HC0_0:=Aside0.mk hc0_0
 clear hr0_0 hc0_0
 have HR0_1:=Aside0.mk hr0_1
 have HC0_1:=Aside0.mk hc0_1
 clear hr0_1 hc0_1
 have HR0_2:=Aside0.mk hr0_2
 have HC0_2:=Aside0.mk hc0_2
 clear hr0_2 hc0_2
 have HR0_3:=Aside0.mk hr0_3
 have HC0_3:=Aside0.mk hc0_3
 clear hr0_3 hc0_3
 have HB:=Aside0.mk (Below.refl w.heap.size w)
 have H : ((impl_GoodSpace.f k l0_0 l0_1 l0_2 l0_3).bind fun t319=>(if t319 = true then ((impl_Space_text.f k l0_0 l0_1 l0_2 l0_3 a1).bind fun bt320=>(some (bt320.1,bt320.2.1,bt320.2.2))) else (some ((⟨#[]⟩ : ByteArray),([] : List Int),false)))) = some (r1,r2,r3):=h
 clear h
 replace H:=Option.bind_eq_some_iff.mp H
 obtain ⟨t319,A30,H⟩:=H
 replace H : (if t319 = true then ((impl_Space_text.f k l0_0 l0_1 l0_2 l0_3 a1).bind fun bt320=>(some (bt320.1,bt320.2.1,bt320.2.2))) else (some ((⟨#[]⟩ : ByteArray),([] : List Int),false))) = some (r1,r2,r3):=H
 have A3:=Aside0.mk A30
 clear A30
 by_cases c4 : t319 = true
 ·subst c4
  have H1 : ((impl_Space_text.f k l0_0 l0_1 l0_2 l0_3 a1).bind fun bt320=>(some (bt320.1,bt320.2.1,bt320.2.2))) = some (r1,r2,r3):=by rw [if_pos rfl] at H;exact H
  clear H
  have H:=H1
  clear H1
  replace H:=Option.bind_eq_some_iff.mp H
  obtain ⟨⟨t320,t321,t324⟩,A50,H⟩:=H
  replace H : (some (t320,t321,t324)) = some (r1,r2,r3):=H
  have A5:=Aside0.mk A50
  clear A50
  simp only [Option.some.injEq,Prod.mk.injEq] at H
  obtain ⟨rfl,rfl,rfl⟩:=H
  go_enter Try.func23,Try.ntmps23
  go_wp2_with (first|((with_reducible refine gate_dst (N:=2) rfl ?_);refine box_event ?hg (N:=2) ?hd (cs:=#[.slice A0_0 l0_0.length c0_0,.slice A0_1 l0_1.length c0_1,.slice A0_2 l0_2.length c0_2,.slice A0_3 l0_3.length c0_3]) (t:=28) ?hr ?_;(case hd=>rfl);(case hg=>rfl);(case hr=>first|(go_simp;done)|(go_simp;rfl));intro gb318 hg w6 hbox hb;have n0_:=Aside0.mk (below_step (by repeat (first|exact HB.out|apply below_alloc|apply pw_below_drewN|apply below_drew1)) hb);have n1_:=Aside0.mk (hbox);have n2_:=Aside0.mk ((by rw [hg];exact (below_size (by repeat (first|exact HB.out|apply below_alloc|apply pw_below_drewN|apply below_drew1))) : w.heap.size ≤ gb318));have n3_:=Aside0.mk ((by rw [hg];exact (below_size (by repeat (first|exact HB.out|apply below_alloc|apply pw_below_drewN|apply below_drew1))) : w.heap.size ≤ gb318));clear HB;have HB:=n0_;have BK318:=n1_;have GW318:=n2_;have GE318:=n3_;clear n0_ n1_ n2_ n3_;clear hb hbox hg;have hcz7_0 : w6.cell? ⟨gb318,0,none⟩ = some (.slice A0_0 l0_0.length c0_0):=(blk_cell BK318.out 0).trans rfl;have hcz7_1 : w6.cell? ⟨gb318,1,none⟩ = some (.slice A0_1 l0_1.length c0_1):=(blk_cell BK318.out 1).trans rfl;have hcz7_2 : w6.cell? ⟨gb318,2,none⟩ = some (.slice A0_2 l0_2.length c0_2):=(blk_cell BK318.out 2).trans rfl;have hcz7_3 : w6.cell? ⟨gb318,3,none⟩ = some (.slice A0_3 l0_3.length c0_3):=(blk_cell BK318.out 3).trans rfl;have hfz7_0:=blk_frozen BK318.out 0;have hfz7_1:=blk_frozen BK318.out 1;have hfz7_2:=blk_frozen BK318.out 2;have hfz7_3:=blk_frozen BK318.out 3)|((with_reducible refine gate_callee (f:=41) rfl ?_);refine goesL_ (some 8) rfl rfl Try.func41 (by kernel_rfl) rfl #[.agg #[.slice A0_0 l0_0.length c0_0,.slice A0_1 l0_1.length c0_1,.slice A0_2 l0_2.length c0_2,.slice A0_3 l0_3.length c0_3]] rfl (by (try simp only [List.map_toArray,List.map_cons,List.map_nil]);first|done|rfl|(simp only [List.length_drop,List.length_take];rfl)) ?_;(with_reducible refine (impl_GoodSpace.calls k _ _ l0_0 _ _ l0_1 _ _ l0_2 _ _ l0_3 true _ ?side1 ?side2 ?side3 ?side4 ?side5 ?side6 ?side7 ?side8 A3.out).mono ?_);(case side1=>repeat (first|exact (Kd.C_below HR0_0.out HB.out)|(with_reducible first|apply Kd.C_alloc|apply Kd.C_drewN|apply Kd.C_drew)));(case side2=>exact HC0_0.out);(case side3=>repeat (first|exact (Kd.C_below HR0_1.out HB.out)|(with_reducible first|apply Kd.C_alloc|apply Kd.C_drewN|apply Kd.C_drew)));(case side4=>exact HC0_1.out);(case side5=>repeat (first|exact (Kd.C_below HR0_2.out HB.out)|(with_reducible first|apply Kd.C_alloc|apply Kd.C_drewN|apply Kd.C_drew)));(case side6=>exact HC0_2.out);(case side7=>repeat (first|exact (Kd.C_below HR0_3.out HB.out)|(with_reducible first|apply Kd.C_alloc|apply Kd.C_drewN|apply Kd.C_drew)));(case side8=>exact HC0_3.out);rintro e w8 ⟨rfl,hb⟩;refine ⟨_,rfl,?_⟩;have n0_:=Aside0.mk (blk_below (g:=gb318) (o:=.cells #[.slice A0_0 l0_0.length c0_0,.slice A0_1 l0_1.length c0_1,.slice A0_2 l0_2.length c0_2,.slice A0_3 l0_3.length c0_3] 28 (0,0)) (by (with_reducible repeat first|apply blk_drewN|apply blk_drew|apply blk_alloc);exact BK318.out) hb);have n1_:=Aside0.mk (below_step (by repeat (first|(with_reducible first|exact HB.out|apply below_alloc|apply pw_below_drewN|apply below_drew1|refine below_set ?_ GE318.out)|exact HB.out)) hb);clear BK318;clear HB;have BK318:=n0_;have HB:=n1_;clear n0_ n1_;(try clear hb);(try clear hb2);(try clear hk);(try clear hi))|((with_reducible refine gate_callee (f:=44) rfl ?_);refine goesL_ (some 11) rfl rfl Try.func44 (by kernel_rfl) rfl #[.pointer (some ⟨gb318,0,none⟩),.int .i64 a1] rfl (by (try simp only [List.map_toArray,List.map_cons,List.map_nil]);first|done|rfl|(simp only [List.length_drop,List.length_take];rfl)) ?_;(with_reducible refine (impl_Space_text.calls k gb318 A0_0 c0_0 l0_0 A0_1 c0_1 l0_1 A0_2 c0_2 l0_2 A0_3 c0_3 l0_3 a1 t320 t321 t324 _ ?side1 ?side2 ?side3 ?side4 ?side5 ?side6 ?side7 ?side8 ?side9 A5.out).mono ?_);(case side1=>exact by (with_reducible repeat first|apply blk_drewN|apply blk_drew|apply blk_alloc);exact BK318.out);(case side2=>repeat (first|exact (Kd.C_below HR0_0.out HB.out)|(with_reducible first|apply Kd.C_alloc|apply Kd.C_drewN|apply Kd.C_drew)));(case side3=>exact HC0_0.out);(case side4=>repeat (first|exact (Kd.C_below HR0_1.out HB.out)|(with_reducible first|apply Kd.C_alloc|apply Kd.C_drewN|apply Kd.C_drew)));(case side5=>exact HC0_1.out);(case side6=>repeat (first|exact (Kd.C_below HR0_2.out HB.out)|(with_reducible first|apply Kd.C_alloc|apply Kd.C_drewN|apply Kd.C_drew)));(case side7=>exact HC0_2.out);(case side8=>repeat (first|exact (Kd.C_below HR0_3.out HB.out)|(with_reducible first|apply Kd.C_alloc|apply Kd.C_drewN|apply Kd.C_drew)));(case side9=>exact HC0_3.out);rintro e w9 ⟨v322,rfl,ho0,hb⟩;refine ⟨_,rfl,?_⟩;have n0_:=Aside0.mk (Kd.R_lower ho0 (below_size (by repeat (first|(with_reducible first|exact HB.out|apply below_alloc|apply pw_below_drewN|apply below_drew1|refine below_set ?_ GE318.out)|exact HB.out))));have n1_:=Aside0.mk (blk_below (g:=gb318) (o:=.cells #[.slice A0_0 l0_0.length c0_0,.slice A0_1 l0_1.length c0_1,.slice A0_2 l0_2.length c0_2,.slice A0_3 l0_3.length c0_3] 28 (0,0)) (by (with_reducible repeat first|apply blk_drewN|apply blk_drew|apply blk_alloc);exact BK318.out) hb);have n2_:=Aside0.mk (below_step (by repeat (first|(with_reducible first|exact HB.out|apply below_alloc|apply pw_below_drewN|apply below_drew1|refine below_set ?_ GE318.out)|exact HB.out)) hb);clear BK318;clear HB;have HO323:=n0_;have BK318:=n1_;have HB:=n2_;clear n0_ n1_ n2_;(try clear hb);(try clear hb2);(try clear hk);(try clear hi);(try clear ho0)))
  go_ret3
  exact ⟨_,by first|rfl|(simp [*,errW_none,errW_some] <;> rfl),by (with_reducible repeat (first|apply Kd.R_alloc|apply Kd.R_drewN|apply Kd.R_drew));exact HO323.out,by repeat (first|(with_reducible first|exact HB.out|apply below_alloc|apply pw_below_drewN|apply below_drew1|refine below_set ?_ GE318.out)|exact HB.out)⟩
 ·replace c4:=Bool.eq_false_iff.mpr c4
  subst c4
  have H1 : (some ((⟨#[]⟩ : ByteArray),([] : List Int),false)) = some (r1,r2,r3):=by rw [if_neg (show ¬ (false = true) by decide)] at H;exact H
  clear H
  have H:=H1
  clear H1
  simp only [Option.some.injEq,Prod.mk.injEq] at H
  obtain ⟨rfl,rfl,rfl⟩:=H
  go_enter Try.func23,Try.ntmps23
  go_wp2_with (first|((with_reducible refine gate_dst (N:=2) rfl ?_);refine box_event ?hg (N:=2) ?hd (cs:=#[.slice A0_0 l0_0.length c0_0,.slice A0_1 l0_1.length c0_1,.slice A0_2 l0_2.length c0_2,.slice A0_3 l0_3.length c0_3]) (t:=28) ?hr ?_;(case hd=>rfl);(case hg=>rfl);(case hr=>first|(go_simp;done)|(go_simp;rfl));intro gb318 hg w10 hbox hb;have n0_:=Aside0.mk (below_step (by repeat (first|exact HB.out|apply below_alloc|apply pw_below_drewN|apply below_drew1)) hb);have n1_:=Aside0.mk (hbox);have n2_:=Aside0.mk ((by rw [hg];exact (below_size (by repeat (first|exact HB.out|apply below_alloc|apply pw_below_drewN|apply below_drew1))) : w.heap.size ≤ gb318));have n3_:=Aside0.mk ((by rw [hg];exact (below_size (by repeat (first|exact HB.out|apply below_alloc|apply pw_below_drewN|apply below_drew1))) : w.heap.size ≤ gb318));clear HB;have HB:=n0_;have BK318:=n1_;have GW318:=n2_;have GE318:=n3_;clear n0_ n1_ n2_ n3_;clear hb hbox hg;have hcz11_0 : w10.cell? ⟨gb318,0,none⟩ = some (.slice A0_0 l0_0.length c0_0):=(blk_cell BK318.out 0).trans rfl;have hcz11_1 : w10.cell? ⟨gb318,1,none⟩ = some (.slice A0_1 l0_1.length c0_1):=(blk_cell BK318.out 1).trans rfl;have hcz11_2 : w10.cell? ⟨gb318,2,none⟩ = some (.slice A0_2 l0_2.length c0_2):=(blk_cell BK318.out 2).trans rfl;have hcz11_3 : w10.cell? ⟨gb318,3,none⟩ = some (.slice A0_3 l0_3.length c0_3):=(blk_cell BK318.out 3).trans rfl;have hfz11_0:=blk_frozen BK318.out 0;have hfz11_1:=blk_frozen BK318.out 1;have hfz11_2:=blk_frozen BK318.out 2;have hfz11_3:=blk_frozen BK318.out 3)|((with_reducible refine gate_callee (f:=41) rfl ?_);refine goesL_ (some 8) rfl rfl Try.func41 (by kernel_rfl) rfl #[.agg #[.slice A0_0 l0_0.length c0_0,.slice A0_1 l0_1.length c0_1,.slice A0_2 l0_2.length c0_2,.slice A0_3 l0_3.length c0_3]] rfl (by (try simp only [List.map_toArray,List.map_cons,List.map_nil]);first|done|rfl|(simp only [List.length_drop,List.length_take];rfl)) ?_;(with_reducible refine (impl_GoodSpace.calls k _ _ l0_0 _ _ l0_1 _ _ l0_2 _ _ l0_3 false _ ?side1 ?side2 ?side3 ?side4 ?side5 ?side6 ?side7 ?side8 A3.out).mono ?_);(case side1=>repeat (first|exact (Kd.C_below HR0_0.out HB.out)|(with_reducible first|apply Kd.C_alloc|apply Kd.C_drewN|apply Kd.C_drew)));(case side2=>exact HC0_0.out);(case side3=>repeat (first|exact (Kd.C_below HR0_1.out HB.out)|(with_reducible first|apply Kd.C_alloc|apply Kd.C_drewN|apply Kd.C_drew)));(case side4=>exact HC0_1.out);(case side5=>repeat (first|exact (Kd.C_below HR0_2.out HB.out)|(with_reducible first|apply Kd.C_alloc|apply Kd.C_drewN|apply Kd.C_drew)));(case side6=>exact HC0_2.out);(case side7=>repeat (first|exact (Kd.C_below HR0_3.out HB.out)|(with_reducible first|apply Kd.C_alloc|apply Kd.C_drewN|apply Kd.C_drew)));(case side8=>exact HC0_3.out);rintro e w12 ⟨rfl,hb⟩;refine ⟨_,rfl,?_⟩;have n0_:=Aside0.mk (blk_below (g:=gb318) (o:=.cells #[.slice A0_0 l0_0.length c0_0,.slice A0_1 l0_1.length c0_1,.slice A0_2 l0_2.length c0_2,.slice A0_3 l0_3.length c0_3] 28 (0,0)) (by (with_reducible repeat first|apply blk_drewN|apply blk_drew|apply blk_alloc);exact BK318.out) hb);have n1_:=Aside0.mk (below_step (by repeat (first|(with_reducible first|exact HB.out|apply below_alloc|apply pw_below_drewN|apply below_drew1|refine below_set ?_ GE318.out)|exact HB.out)) hb);clear BK318;clear HB;have BK318:=n0_;have HB:=n1_;clear n0_ n1_;(try clear hb);(try clear hb2);(try clear hk);(try clear hi)))
  go_ret3
  exact ⟨_,by first|rfl|(simp [*,errW_none,errW_some] <;> rfl),by first|exact Kd.R_nil _ _ _ _ _|exact Kd.N_nil _ _ _ _ _|exact Kd.V_nil _ _ _ _ _|exact Kd.Q_nil _ _ _ _ _|exact Kd.S_nil _ _ _ _ _,by repeat (first|(with_reducible first|exact HB.out|apply below_alloc|apply pw_below_drewN|apply below_drew1|refine below_set ?_ GE318.out)|exact HB.out)⟩

end Go.Proofs.Ytggnbbbhlnjleaa.PFnExactTextIn
