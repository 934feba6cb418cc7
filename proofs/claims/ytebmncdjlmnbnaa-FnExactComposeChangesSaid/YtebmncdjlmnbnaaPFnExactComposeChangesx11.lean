-- Written by a program of this session over the print of the kit (wip/t/patch_print.py).
import Derived.Test.YtebmncdjlmnbnaaPFnExactComposeChangesx0
namespace Go.Proofs.Ytebmncdjlmnbnaa.PFnExactComposeChanges
open Go.RowKit Go.Proofs.YtebmncdjlmnbnaaW.PrintWords Go.Proofs.YtebmncdjlmnbnaaW.PrintLast Go.Proofs.YtebmncdjlmnbnaaW.PrintMore
attribute [local go_sem] max2_int min2_int max_two min_two max_three min_three max_four min_four   -- for this text's walks alone
set_option linter.unusedVariables false
set_option linter.unusedSimpArgs false

/-! ### impl_tell: function 68 -/
mutual
def impl_tell.l0 : Nat → List (S74) → Int → Int → List Bool → List ByteArray → Option (List Bool × List ByteArray)
 | 0,_,_,_,_,_=>none
 | k + 1,x8,x9,x10,x258000,x258001=>if x10 < x9 then (if 0 ≤ x10 then (if x10 < (x8.length : Int) then (if 0 ≤ (wrap64 ((x258001.length : Int) - 1)) then (if (wrap64 ((x258001.length : Int) - 1)) < (x258001.length : Int) then (if (rdOf ByteArray.empty x258001 (wrap64 ((x258001.length : Int) - 1))).size + ((rd_T74 x8 x10).f2).size ≤ 9223372036854775807 then (impl_tell.l1 k x8 x9 x10 (wrap64 (((rd_T74 x8 x10).f0) + ((rd_T74 x8 x10).f1))) 0 x258000 (x258001.set ((wrap64 ((x258001.length : Int) - 1)) : Int).toNat ((rdOf ByteArray.empty x258001 (wrap64 ((x258001.length : Int) - 1))) ++ ((rd_T74 x8 x10).f2))) ((rd_T74 x8 x10).f0) ((rd_T74 x8 x10).f1) ((rd_T74 x8 x10).f2)) else (none)) else (none)) else (none)) else (none)) else (none)) else (some (x258000,x258001))
def impl_tell.l1 : Nat → List (S74) → Int → Int → Int → Int → List Bool → List ByteArray → Int → Int → ByteArray → Option (List Bool × List ByteArray)
 | 0,_,_,_,_,_,_,_,_,_,_=>none
 | k + 1,x8,x9,x10,x30,x31,x258000,x258001,x260000,x260001,x260002=>if x31 < x30 then ((some (([decide (x260000 > 0)] : List Bool) : List Bool)).bind fun y262=>(if x258000.length + y262.length < 140737488355328 then ((some (([(⟨#[]⟩ : ByteArray)] : List ByteArray) : List ByteArray)).bind fun y268=>(if x258001.length + y268.length < 8796093022208 then (impl_tell.l1 k x8 x9 x10 x30 (wrap64 (x31 + 1)) (x258000 ++ y262) (x258001 ++ y268) x260000 x260001 x260002) else (none))) else (none))) else (impl_tell.l0 k x8 x9 (wrap64 (x10 + 1)) x258000 x258001)
end
def impl_tell.f (k : Nat) (l0 : List (S74)) : Option (List Bool × List ByteArray):=impl_tell.l0 k l0 (l0.length : Int) 0 ([] : List Bool) (([(⟨#[]⟩ : ByteArray)] : List ByteArray))
theorem impl_tell.mono_l : ∀ k,(∀ y0 y1 y2 y3 y4,LeO (impl_tell.l0 k y0 y1 y2 y3 y4) (impl_tell.l0 (k + 1) y0 y1 y2 y3 y4))∧(∀ y0 y1 y2 y3 y4 y5 y6 y7 y8 y9,LeO (impl_tell.l1 k y0 y1 y2 y3 y4 y5 y6 y7 y8 y9) (impl_tell.l1 (k + 1) y0 y1 y2 y3 y4 y5 y6 y7 y8 y9))
 | 0=>⟨fun _ _ _ _ _ r h=>by simp [impl_tell.l0] at h,fun _ _ _ _ _ _ _ _ _ _ r h=>by simp [impl_tell.l1] at h⟩
 | k + 1=>by
  obtain ⟨ih0,ih1⟩:=impl_tell.mono_l k
  refine ⟨?_,?_⟩
  ·intro y0 y1 y2 y3 y4
   unfold impl_tell.l0
   repeat' first
   | (with_reducible exact ih0 _ _ _ _ _)
   | (with_reducible exact ih1 _ _ _ _ _ _ _ _ _ _)
   | (with_reducible exact LeO.refl _)
   | (with_reducible exact LeO.none _)
   | (with_reducible refine LeO.ite ?_ ?_)
   | (with_reducible refine LeO.bind ?_ (fun _=>?_))
   | exact ih0 _ _ _ _ _
   | exact ih1 _ _ _ _ _ _ _ _ _ _
   | exact LeO.none _
   | refine LeO.ite ?_ ?_
   | refine LeO.bind ?_ (fun _=>?_)
  ·intro y0 y1 y2 y3 y4 y5 y6 y7 y8 y9
   unfold impl_tell.l1
   repeat' first
   | (with_reducible exact ih0 _ _ _ _ _)
   | (with_reducible exact ih1 _ _ _ _ _ _ _ _ _ _)
   | (with_reducible exact LeO.refl _)
   | (with_reducible exact LeO.none _)
   | (with_reducible refine LeO.ite ?_ ?_)
   | (with_reducible refine LeO.bind ?_ (fun _=>?_))
   | exact ih0 _ _ _ _ _
   | exact ih1 _ _ _ _ _ _ _ _ _ _
   | exact LeO.none _
   | refine LeO.ite ?_ ?_
   | refine LeO.bind ?_ (fun _=>?_)
theorem impl_tell.mono : ∀ a0 k,LeO (impl_tell.f k a0) (impl_tell.f (k + 1) a0):=by
 intro a0 k
 obtain ⟨ih0,ih1⟩:=impl_tell.mono_l k
 unfold impl_tell.f
 repeat' first
   | (with_reducible exact ih0 _ _ _ _ _)
   | (with_reducible exact ih1 _ _ _ _ _ _ _ _ _ _)
   | (with_reducible exact LeO.refl _)
   | (with_reducible exact LeO.none _)
   | (with_reducible refine LeO.ite ?_ ?_)
   | (with_reducible refine LeO.bind ?_ (fun _=>?_))
   | exact ih0 _ _ _ _ _
   | exact ih1 _ _ _ _ _ _ _ _ _ _
   | exact LeO.none _
   | refine LeO.ite ?_ ?_
   | refine LeO.bind ?_ (fun _=>?_)
def impl_tell.T5 : Bool × List (List Nat × List Nat):=(true,[([],[]),([0],[0]),([],[]),([2],[2]),([3],[3]),([4],[4]),([1,5],[1,5]),([6],[6]),([],[]),([8],[8]),([7,9],[7,9]),([1,5,0,1,2,3,4,5,6,7,8,9,10],[1,5]),([11,10,0,1,2,3,4,5,6,7,8,9,10],[10,11])])
def impl_tell.B5 : List Nat:=[0,1,0,4,12,28,63,127,0,256,1023,2047,4095]
theorem impl_tell.tab5 : rtab .any (opsOf Try.f68 5) = impl_tell.T5:=by kernel_rfl
theorem impl_tell.bits5 : waitsOk impl_tell.T5.2 impl_tell.B5 = true:=by kernel_rfl
def impl_tell.T8 : Bool × List (List Nat × List Nat):=(true,[([],[]),([0],[0]),([],[]),([2],[2]),([3],[3]),([4],[4]),([1,5],[1,5]),([],[]),([7],[7]),([],[]),([8,9,6],[8,9]),([0,1,2,3,4,5,6,7,8],[]),([11,6,10,0,1,2,3,4,5,6,7,8],[6,11]),([0,1,2,3,4,5,6,7,8,9,10,11,12],[]),([13,10,12,0,1,2,3,4,5,6,7,8,9,10,11,12],[10,13])])
def impl_tell.B8 : List Nat:=[0,1,0,4,12,28,63,0,128,0,1023,511,4095,8191,16383]
theorem impl_tell.tab8 : rtab .any (opsOf Try.f68 8) = impl_tell.T8:=by kernel_rfl
theorem impl_tell.bits8 : waitsOk impl_tell.T8.2 impl_tell.B8 = true:=by kernel_rfl
set_option maxHeartbeats 8000000 in
set_option maxRecDepth 100000 in
theorem impl_tell.calls (k : Nat) (A0 : Option Addr) (c0 : Nat) (l0 : List (S74)) (r1 : List Bool) (r2 : List ByteArray) (w : World) (hr0 : Kd.C k74 w A0 l0.length l0) (hc0 : l0.length ≤ c0) (h : impl_tell.f k l0 = some (r1,r2)) :
  Calls Try.prog 68 #[.slice A0 l0.length c0] w fun e w'=>∃ v0_ v1_ : Value,e = .returned (.agg #[v0_,v1_])∧Kd.R Kd.bool 4 w' w.heap.size (fun _=>True) v0_ r1∧Kd.R Kd.string 9 w' w.heap.size (fun _=>True) v1_ r2∧Below w.heap.size w w':=by
 have hu86:=Try.underlying86
 have hu74:=Try.underlying74
 have HR0:=Aside0.mk hr0
 have HC0:=Aside0.mk hc0
 clear hr0 hc0
 have HB:=Aside0.mk (Below.refl w.heap.size w)
 have H : (impl_tell.l0 k l0 (l0.length : Int) 0 ([] : List Bool) (([(⟨#[]⟩ : ByteArray)] : List ByteArray))) = some (r1,r2):=h
 clear h
 obtain ⟨y254,hy254⟩ : ∃ y_ : List ByteArray,y_ = (([(⟨#[]⟩ : ByteArray)] : List ByteArray)):=⟨_,rfl⟩
 replace H : (impl_tell.l0 k l0 (l0.length : Int) 0 ([] : List Bool) y254) = some (r1,r2):=by first|(rw [hy254];with_reducible exact H)|(have H2_:=(Option.bind_some _ _).symm.trans H;rw [hy254];with_reducible exact H2_)|(have H2_:=(Option.bind_some _ _).symm.trans H;with_reducible exact H2_)|with_reducible exact H|(rw [hy254];exact H)|exact H
 have Ny254:=Aside0.mk hy254
 clear hy254
 have H':=Aside0.mk H
 clear H
 go_enter Try.func68,Try.ntmps68
 go_wp2_with (first|((with_reducible refine gate_dst (N:=2) rfl ?_);refine box_event ?hg (N:=2) ?hd (cs:=#[.slice none 0 0,.slice none 0 0]) (t:=86) ?hr ?_;(case hd=>rfl);(case hg=>rfl);(case hr=>first|(go_simp;done)|(go_simp;rfl));intro gb253 hg w2 hbox hb;have n0_:=Aside0.mk (below_step (by repeat (first|exact HB.out|apply below_alloc|apply pw_below_drewN|apply below_drew1)) hb);have n1_:=Aside0.mk (hbox);have n2_:=Aside0.mk ((by rw [hg];exact (below_size (by repeat (first|exact HB.out|apply below_alloc|apply pw_below_drewN|apply below_drew1))) : w.heap.size ≤ gb253));have n3_:=Aside0.mk ((by rw [hg];exact (below_size (by repeat (first|exact HB.out|apply below_alloc|apply pw_below_drewN|apply below_drew1))) : w.heap.size ≤ gb253));clear HB;have HB:=n0_;have BK253:=n1_;have GW253:=n2_;have GE253:=n3_;clear n0_ n1_ n2_ n3_;clear hb hbox hg)|((with_reducible refine gate_dst (N:=6) rfl ?_);refine Kd.R_lit Kd.string _ 9 ?hg (N:=6) ?hd (xs:=([(⟨#[]⟩ : ByteArray)] : List ByteArray)) (inner:=[.string (⟨#[]⟩ : ByteArray)]) (ok:=fun _=>True) (okp:=fun _=>True) ?hr ?hp (fun _ hk=>hk) trivial (Below.refl _ _) (Nat.le_refl _) (by simp) ?_;(case hd=>rfl);(case hg=>rfl);(case hr=>first|(go_simp;done)|(go_simp;rfl));(case hp=>exact (Reps.one (show Kd.M Kd.string _ _ _ (⟨#[]⟩ : ByteArray) [.string (⟨#[]⟩ : ByteArray)] from rfl) (Reps.none _ _)));intro v255 w3 ho4 hb hg_ hnew_;clear hg_ hnew_;(first|rw [← Ny254.out] at ho4|(simp only [Int.reduceToNat] at ho4;rw [← Ny254.out] at ho4));have n0_:=Aside0.mk (Kd.R_lower ho4 (below_size (by repeat (first|(with_reducible first|exact HB.out|apply below_alloc|apply pw_below_drewN|apply below_drew1|refine below_set ?_ GE253.out)|exact HB.out))));have n1_:=Aside0.mk (blk_below (g:=gb253) (o:=.cells #[.slice none 0 0,.slice none 0 0] 86 (0,0)) (by (with_reducible repeat first|apply blk_drewN|apply blk_drew|apply blk_alloc);exact BK253.out) hb);have n2_:=Aside0.mk (below_step (by repeat (first|(with_reducible first|exact HB.out|apply below_alloc|apply pw_below_drewN|apply below_drew1|refine below_set ?_ GE253.out)|exact HB.out)) hb);clear BK253;clear HB;have HO256:=n0_;have BK253:=n1_;have HB:=n2_;clear n0_ n1_ n2_;clear hb ho4;obtain ⟨Ao5,co5,eo5⟩:=Kd.R_slice HO256.out;subst eo5)|((with_reducible refine gate_dst (N:=3) rfl ?_);refine box_event ?hg (N:=3) ?hd (cs:=#[.slice none 0 0,.slice none 0 0]) (t:=86) ?hr ?_;(case hd=>rfl);(case hg=>rfl);(case hr=>first|(go_simp;done)|(go_simp;rfl));intro gb257 hg w6 hbox hb;have n0_:=Aside0.mk (Kd.R_below (by (with_reducible repeat (first|apply Kd.R_alloc|apply Kd.R_drewN|apply Kd.R_drew));exact HO256.out) hb);have n1_:=Aside0.mk (blk_below (g:=gb253) (o:=.cells #[.slice none 0 0,.slice none 0 0] 86 (0,0)) (by (with_reducible repeat first|apply blk_drewN|apply blk_drew|apply blk_alloc);exact BK253.out) hb);have n2_:=Aside0.mk (below_step (by repeat (first|(with_reducible first|exact HB.out|apply below_alloc|apply pw_below_drewN|apply below_drew1|refine below_set ?_ GE253.out)|exact HB.out)) hb);have n3_:=Aside0.mk (hbox);have n4_:=Aside0.mk ((by rw [hg];exact (below_size (by repeat (first|(with_reducible first|exact HB.out|apply below_alloc|apply pw_below_drewN|apply below_drew1|refine below_set ?_ GE253.out)|exact HB.out))) : w.heap.size ≤ gb257));have n5_:=Aside0.mk ((by rw [hg];exact (below_size (by repeat (first|(with_reducible first|exact HB.out|apply below_alloc|apply pw_below_drewN|apply below_drew1|refine below_set ?_ GE253.out)|exact HB.out))) : w.heap.size ≤ gb257));have n6_:=Aside0.mk ((by rw [hg];exact Nat.ne_of_lt (blk_lt (g:=gb253) (o:=.cells #[.slice none 0 0,.slice none 0 0] 86 (0,0)) (by (with_reducible repeat first|apply blk_drewN|apply blk_drew|apply blk_alloc);exact BK253.out)) : gb253 ≠ gb257));have n7_:=Aside0.mk ((by rw [hg];exact Nat.ne_of_gt (blk_lt (g:=gb253) (o:=.cells #[.slice none 0 0,.slice none 0 0] 86 (0,0)) (by (with_reducible repeat first|apply blk_drewN|apply blk_drew|apply blk_alloc);exact BK253.out)) : gb257 ≠ gb253));clear HO256;clear BK253;clear HB;have HO256:=n0_;have BK253:=n1_;have HB:=n2_;have BK257:=n3_;have GW257:=n4_;have GE257:=n5_;have NB253_257:=n6_;have NB257_253:=n7_;clear n0_ n1_ n2_ n3_ n4_ n5_ n6_ n7_;clear hb hbox hg;have hnb7:=NB257_253.out;have hnc7:=NB253_257.out;have hcz8_0 : w6.cell? ⟨gb257,0,none⟩ = some (.slice none 0 0):=(blk_cell BK257.out 0).trans rfl;have hcz8_1 : w6.cell? ⟨gb257,1,none⟩ = some (.slice none 0 0):=(blk_cell BK257.out 1).trans rfl;have hfz8_0:=blk_frozen BK257.out 0;have hfz8_1:=blk_frozen BK257.out 1))
 go_loopg [10] k (fun kq v10 w'=>∃ (x10_1 : Int) (x258000_1 : List Bool) (x258001_1 : List ByteArray) (u258000 : Value) (u258001 : Value),v10 = .int .i64 x10_1∧Aside0 (impl_tell.l0 kq l0 (l0.length : Int) x10_1 x258000_1 x258001_1 = some (r1,r2))∧Aside0 (kq ≤ k)∧Aside0 (Kd.R Kd.bool 4 w' w.heap.size (fun _=>True) u258000 x258000_1)∧Aside0 (Kd.R Kd.string 9 w' w.heap.size (fun _=>True) u258001 x258001_1)∧Aside0 (w'.heap[gb253]? = some (.cells #[(.slice none 0 0),(.slice none 0 0)] 86 (0,0)))∧Aside0 (w'.heap[gb257]? = some (.cells #[u258000,u258001] 86 (0,0)))∧Aside0 (Below w.heap.size w w'))
 case atStart=>exact ⟨(0),(([] : List Bool)),(y254),(.slice none 0 0),(.slice Ao5 y254.length co5),(by first|rfl|(simp;done)|(simp [*];done)),H',⟨Nat.le_refl _⟩,⟨by first|exact Kd.R_nil _ _ _ _ _|exact Kd.N_nil _ _ _ _ _|exact Kd.V_nil _ _ _ _ _|exact Kd.Q_nil _ _ _ _ _|exact Kd.S_nil _ _ _ _ _⟩,⟨by (with_reducible repeat (first|apply Kd.R_alloc|apply Kd.R_drewN|apply Kd.R_drew));exact Kd.R_mono (Kd.R_far (p:=⟨gb257,1,none⟩) (Kd.R_far (p:=⟨gb257,0,none⟩) (Kd.R_types HO256.out BK257.out (by decide)) (fun _ hk=>hk.2) (.slice none 0 0)) (fun _ hk=>hk.2) (.slice Ao5 y254.length co5)) (fun _ hk=>trivial)⟩,⟨by (with_reducible repeat first|apply blk_drewN|apply blk_drew|apply blk_alloc);refine blk_far ?_ NB253_257.out _;(with_reducible repeat first|apply blk_drewN|apply blk_drew|apply blk_alloc);refine blk_far ?_ NB253_257.out _;(with_reducible repeat first|apply blk_drewN|apply blk_drew|apply blk_alloc);exact BK253.out⟩,⟨by (with_reducible repeat first|apply blk_drewN|apply blk_drew|apply blk_alloc);refine blk_put (cs:=#[.slice none 0 0,.slice none 0 0]) ?_ 1 _ rfl;(with_reducible repeat first|apply blk_drewN|apply blk_drew|apply blk_alloc);refine blk_put (cs:=#[.slice none 0 0,.slice none 0 0]) ?_ 0 _ rfl;(with_reducible repeat first|apply blk_drewN|apply blk_drew|apply blk_alloc);exact BK257.out⟩,⟨by repeat (first|(with_reducible first|exact HB.out|apply below_alloc|apply pw_below_drewN|apply below_drew1|refine below_set ?_ GE253.out|refine below_set ?_ GE257.out)|exact HB.out)⟩⟩
 case round =>
  clear H'
  (try clear p2);(try clear c6);(try clear c7);(try clear hcz8_0);(try clear hcz8_1);(try clear hfz8_0);(try clear hfz8_1);(try clear BK253);(try clear BK257)
  obtain ⟨x10_1,x258000_1,x258001_1,u258000,u258001,rfl,HA,HK1,HO_258000,HO_258001,BK253,BK257,HB⟩:=hrel
  cases gk with
  | zero=>exact absurd HA.out (by simp [impl_tell.l0])
  | succ k1 =>
   have H:=HA.out
   clear HA
   simp only [impl_tell.l0] at H
   by_cases c9 : x10_1 < (l0.length : Int)
   ·rw [if_pos c9] at H
    have c9b0 : decide (x10_1 < (l0.length : Int)) = true:=decide_eq_true c9
    clear c9
    by_cases c10 : 0 ≤ x10_1
    ·rw [if_pos c10] at H
     have c10b0 : decide (0 ≤ x10_1) = true:=decide_eq_true c10
     clear c10
     by_cases c11 : x10_1 < (l0.length : Int)
     ·rw [if_pos c11] at H
      have c11b0 : decide (x10_1 < (l0.length : Int)) = true:=decide_eq_true c11
      clear c11
      obtain ⟨ji12,hji12⟩ : ∃ j_ : Int,(wrap64 ((x258001_1.length : Int) - 1)) = j_:=⟨_,rfl⟩
      replace H : (if 0 ≤ (ji12) then (if (ji12) < (x258001_1.length : Int) then (if (rdOf ByteArray.empty x258001_1 (ji12)).size + ((rd_T74 l0 x10_1).f2).size ≤ 9223372036854775807 then (impl_tell.l1 k1 l0 (l0.length : Int) x10_1 (wrap64 (((rd_T74 l0 x10_1).f0) + ((rd_T74 l0 x10_1).f1))) 0 x258000_1 (x258001_1.set ((ji12) : Int).toNat ((rdOf ByteArray.empty x258001_1 (ji12)) ++ ((rd_T74 l0 x10_1).f2))) ((rd_T74 l0 x10_1).f0) ((rd_T74 l0 x10_1).f1) ((rd_T74 l0 x10_1).f2)) else (none)) else (none)) else (none)) = some (r1,r2):=by first|(rw [hji12] at H;exact H)|(simp only [hji12] at H ⊢;exact H)
      have hji12w : (IntKind.i64.wrap ((x258001_1.length : Int) - 1)) = ji12:=(i64_w _).trans hji12
      by_cases c13 : 0 ≤ (ji12)
      ·rw [if_pos c13] at H
       have c13b0 : decide (0 ≤ (ji12)) = true:=decide_eq_true c13
       clear c13
       by_cases c14 : (ji12) < (x258001_1.length : Int)
       ·rw [if_pos c14] at H
        have c14b0 : decide ((ji12) < (x258001_1.length : Int)) = true:=decide_eq_true c14
        clear c14
        by_cases c15 : (rdOf ByteArray.empty x258001_1 (ji12)).size + ((rd_T74 l0 x10_1).f2).size ≤ 9223372036854775807
        ·rw [if_pos c15] at H
         have c15b0:=eq_true c15
         have c15b1 : decide ((rdOf ByteArray.empty x258001_1 (ji12)).size + ((rd_T74 l0 x10_1).f2).size ≤ 9223372036854775807) = true:=decide_eq_true c15
         try have c15b2 : (9223372036854775807 < (rdOf ByteArray.empty x258001_1 (ji12)).size + ((rd_T74 l0 x10_1).f2).size) = False:=eq_false (Nat.not_lt.2 c15)
         obtain ⟨y261,hy261⟩ : ∃ y_ : List ByteArray,y_ = (x258001_1.set ((ji12) : Int).toNat ((rdOf ByteArray.empty x258001_1 (ji12)) ++ ((rd_T74 l0 x10_1).f2))):=⟨_,rfl⟩
         replace H : (impl_tell.l1 k1 l0 (l0.length : Int) x10_1 (wrap64 (((rd_T74 l0 x10_1).f0) + ((rd_T74 l0 x10_1).f1))) 0 x258000_1 y261 ((rd_T74 l0 x10_1).f0) ((rd_T74 l0 x10_1).f1) ((rd_T74 l0 x10_1).f2)) = some (r1,r2):=by first|(rw [hy261];with_reducible exact H)|(have H2_:=(Option.bind_some _ _).symm.trans H;rw [hy261];with_reducible exact H2_)|(have H2_:=(Option.bind_some _ _).symm.trans H;with_reducible exact H2_)|with_reducible exact H|(rw [hy261];exact H)|exact H
         have Ny261:=Aside0.mk hy261
         clear hy261
         have H':=Aside0.mk H
         clear H
         have p258 : 0 ≤ (x10_1 : Int):=of_decide_eq_true (by assumption)
         have q258 : x10_1 < (l0.length : Int):=of_decide_eq_true (by assumption)
         obtain ⟨ad258,e258,hx258_0,hx258_1,hx258_2⟩:=at_T74 HR0.out x10_1 p258 q258
         cases e258
         (try replace hx258_0:=(HB.out.cell (World.block_lt_of_cell? w _ hx258_0)).trans hx258_0)
         (try replace hx258_1:=(HB.out.cell (World.block_lt_of_cell? w _ hx258_1)).trans hx258_1)
         (try replace hx258_2:=(HB.out.cell (World.block_lt_of_cell? w _ hx258_2)).trans hx258_2)
         replace p258:=eq_true p258
         replace q258:=eq_true q258
         try go_wp2_with (first|((with_reducible refine gate_dst (N:=5) rfl ?_);refine box_event ?hg (N:=5) ?hd (cs:=#[.int .i64 0,.int .i64 0,.string (⟨#[]⟩ : ByteArray)]) (t:=74) ?hr ?_;(case hd=>rfl);(case hg=>rfl);(case hr=>first|(go_simp;done)|(go_simp;rfl));intro gb259 hg w17 hbox hb;have n0_:=Aside0.mk (Kd.R_below (by (with_reducible repeat (first|apply Kd.R_alloc|apply Kd.R_drewN|apply Kd.R_drew));exact HO_258000.out) hb);have n1_:=Aside0.mk (Kd.R_below (by (with_reducible repeat (first|apply Kd.R_alloc|apply Kd.R_drewN|apply Kd.R_drew));exact HO_258001.out) hb);have n2_:=Aside0.mk (blk_below (g:=gb253) (o:=.cells #[.slice none 0 0,.slice none 0 0] 86 (0,0)) (by (with_reducible repeat first|apply blk_drewN|apply blk_drew|apply blk_alloc);exact BK253.out) hb);have n3_:=Aside0.mk (blk_below (g:=gb257) (o:=.cells #[u258000,u258001] 86 (0,0)) (by (with_reducible repeat first|apply blk_drewN|apply blk_drew|apply blk_alloc);exact BK257.out) hb);have n4_:=Aside0.mk (below_step (by repeat (first|(with_reducible first|exact HB.out|apply below_alloc|apply pw_below_drewN|apply below_drew1|refine below_set ?_ GE253.out|refine below_set ?_ GE257.out)|exact HB.out)) hb);have n5_:=Aside0.mk (hbox);have n6_:=Aside0.mk ((by rw [hg];exact (below_size (by repeat (first|(with_reducible first|exact HB.out|apply below_alloc|apply pw_below_drewN|apply below_drew1|refine below_set ?_ GE253.out|refine below_set ?_ GE257.out)|exact HB.out))) : w.heap.size ≤ gb259));have n7_:=Aside0.mk ((by rw [hg];exact (below_size (by repeat (first|(with_reducible first|exact HB.out|apply below_alloc|apply pw_below_drewN|apply below_drew1|refine below_set ?_ GE253.out|refine below_set ?_ GE257.out)|exact HB.out))) : w.heap.size ≤ gb259));have n8_:=Aside0.mk ((by rw [hg];exact Nat.ne_of_lt (blk_lt (g:=gb253) (o:=.cells #[.slice none 0 0,.slice none 0 0] 86 (0,0)) (by (with_reducible repeat first|apply blk_drewN|apply blk_drew|apply blk_alloc);exact BK253.out)) : gb253 ≠ gb259));have n9_:=Aside0.mk ((by rw [hg];exact Nat.ne_of_gt (blk_lt (g:=gb253) (o:=.cells #[.slice none 0 0,.slice none 0 0] 86 (0,0)) (by (with_reducible repeat first|apply blk_drewN|apply blk_drew|apply blk_alloc);exact BK253.out)) : gb259 ≠ gb253));have n10_:=Aside0.mk ((by rw [hg];exact Nat.ne_of_lt (blk_lt (g:=gb257) (o:=.cells #[u258000,u258001] 86 (0,0)) (by (with_reducible repeat first|apply blk_drewN|apply blk_drew|apply blk_alloc);exact BK257.out)) : gb257 ≠ gb259));have n11_:=Aside0.mk ((by rw [hg];exact Nat.ne_of_gt (blk_lt (g:=gb257) (o:=.cells #[u258000,u258001] 86 (0,0)) (by (with_reducible repeat first|apply blk_drewN|apply blk_drew|apply blk_alloc);exact BK257.out)) : gb259 ≠ gb257));clear HO_258000;clear HO_258001;clear BK253;clear BK257;clear HB;have HO_258000:=n0_;have HO_258001:=n1_;have BK253:=n2_;have BK257:=n3_;have HB:=n4_;have BK259:=n5_;have GW259:=n6_;have GE259:=n7_;have NB253_259:=n8_;have NB259_253:=n9_;have NB257_259:=n10_;have NB259_257:=n11_;clear n0_ n1_ n2_ n3_ n4_ n5_ n6_ n7_ n8_ n9_ n10_ n11_;clear hb hbox hg;have hnb18:=NB259_253.out;have hnc18:=NB253_259.out;have hnb19:=NB259_257.out;have hnc19:=NB257_259.out;have hcz20_0 : w17.cell? ⟨gb259,0,none⟩ = some (.int .i64 0):=(blk_cell BK259.out 0).trans rfl;have hcz20_1 : w17.cell? ⟨gb259,1,none⟩ = some (.int .i64 0):=(blk_cell BK259.out 1).trans rfl;have hcz20_2 : w17.cell? ⟨gb259,2,none⟩ = some (.string (⟨#[]⟩ : ByteArray)):=(blk_cell BK259.out 2).trans rfl;have hfz20_0:=blk_frozen BK259.out 0;have hfz20_1:=blk_frozen BK259.out 1;have hfz20_2:=blk_frozen BK259.out 2))
         have n0_ : Aside0 (Kd.R Kd.bool 4 (((w17.setCell ⟨gb259,0,none⟩ (.int .i64 ((rd_T74 l0 x10_1).f0))).setCell ⟨gb259,1,none⟩ (.int .i64 ((rd_T74 l0 x10_1).f1))).setCell ⟨gb259,2,none⟩ (.string ((rd_T74 l0 x10_1).f2))) w.heap.size (fun _=>True) u258000 x258000_1):=⟨by (with_reducible repeat (first|apply Kd.R_alloc|apply Kd.R_drewN|apply Kd.R_drew));exact Kd.R_mono (Kd.R_far (p:=⟨gb259,2,none⟩) (Kd.R_far (p:=⟨gb259,1,none⟩) (Kd.R_far (p:=⟨gb259,0,none⟩) (Kd.R_types HO_258000.out BK259.out (by decide)) (fun _ hk=>hk.2) (.int .i64 ((rd_T74 l0 x10_1).f0))) (fun _ hk=>hk.2) (.int .i64 ((rd_T74 l0 x10_1).f1))) (fun _ hk=>hk.2) (.string ((rd_T74 l0 x10_1).f2))) (fun _ hk=>trivial)⟩
         have n1_ : Aside0 (Kd.R Kd.string 9 (((w17.setCell ⟨gb259,0,none⟩ (.int .i64 ((rd_T74 l0 x10_1).f0))).setCell ⟨gb259,1,none⟩ (.int .i64 ((rd_T74 l0 x10_1).f1))).setCell ⟨gb259,2,none⟩ (.string ((rd_T74 l0 x10_1).f2))) w.heap.size (fun _=>True) u258001 x258001_1):=⟨by (with_reducible repeat (first|apply Kd.R_alloc|apply Kd.R_drewN|apply Kd.R_drew));exact Kd.R_mono (Kd.R_far (p:=⟨gb259,2,none⟩) (Kd.R_far (p:=⟨gb259,1,none⟩) (Kd.R_far (p:=⟨gb259,0,none⟩) (Kd.R_types HO_258001.out BK259.out (by decide)) (fun _ hk=>hk.2) (.int .i64 ((rd_T74 l0 x10_1).f0))) (fun _ hk=>hk.2) (.int .i64 ((rd_T74 l0 x10_1).f1))) (fun _ hk=>hk.2) (.string ((rd_T74 l0 x10_1).f2))) (fun _ hk=>trivial)⟩
         have n2_ : Aside0 ((((w17.setCell ⟨gb259,0,none⟩ (.int .i64 ((rd_T74 l0 x10_1).f0))).setCell ⟨gb259,1,none⟩ (.int .i64 ((rd_T74 l0 x10_1).f1))).setCell ⟨gb259,2,none⟩ (.string ((rd_T74 l0 x10_1).f2))).heap[gb253]? = some (.cells #[.slice none 0 0,.slice none 0 0] 86 (0,0))):=⟨by (with_reducible repeat first|apply blk_drewN|apply blk_drew|apply blk_alloc);refine blk_far ?_ NB253_259.out _;(with_reducible repeat first|apply blk_drewN|apply blk_drew|apply blk_alloc);refine blk_far ?_ NB253_259.out _;(with_reducible repeat first|apply blk_drewN|apply blk_drew|apply blk_alloc);refine blk_far ?_ NB253_259.out _;(with_reducible repeat first|apply blk_drewN|apply blk_drew|apply blk_alloc);exact BK253.out⟩
         have n3_ : Aside0 ((((w17.setCell ⟨gb259,0,none⟩ (.int .i64 ((rd_T74 l0 x10_1).f0))).setCell ⟨gb259,1,none⟩ (.int .i64 ((rd_T74 l0 x10_1).f1))).setCell ⟨gb259,2,none⟩ (.string ((rd_T74 l0 x10_1).f2))).heap[gb257]? = some (.cells #[u258000,u258001] 86 (0,0))):=⟨by (with_reducible repeat first|apply blk_drewN|apply blk_drew|apply blk_alloc);refine blk_far ?_ NB257_259.out _;(with_reducible repeat first|apply blk_drewN|apply blk_drew|apply blk_alloc);refine blk_far ?_ NB257_259.out _;(with_reducible repeat first|apply blk_drewN|apply blk_drew|apply blk_alloc);refine blk_far ?_ NB257_259.out _;(with_reducible repeat first|apply blk_drewN|apply blk_drew|apply blk_alloc);exact BK257.out⟩
         have n4_ : Aside0 ((((w17.setCell ⟨gb259,0,none⟩ (.int .i64 ((rd_T74 l0 x10_1).f0))).setCell ⟨gb259,1,none⟩ (.int .i64 ((rd_T74 l0 x10_1).f1))).setCell ⟨gb259,2,none⟩ (.string ((rd_T74 l0 x10_1).f2))).heap[gb259]? = some (.cells #[.int .i64 ((rd_T74 l0 x10_1).f0),.int .i64 ((rd_T74 l0 x10_1).f1),.string ((rd_T74 l0 x10_1).f2)] 74 (0,0))):=⟨by (with_reducible repeat first|apply blk_drewN|apply blk_drew|apply blk_alloc);refine blk_put (cs:=#[.int .i64 ((rd_T74 l0 x10_1).f0),.int .i64 ((rd_T74 l0 x10_1).f1),.string (⟨#[]⟩ : ByteArray)]) ?_ 2 _ rfl;(with_reducible repeat first|apply blk_drewN|apply blk_drew|apply blk_alloc);refine blk_put (cs:=#[.int .i64 ((rd_T74 l0 x10_1).f0),.int .i64 0,.string (⟨#[]⟩ : ByteArray)]) ?_ 1 _ rfl;(with_reducible repeat first|apply blk_drewN|apply blk_drew|apply blk_alloc);refine blk_put (cs:=#[.int .i64 0,.int .i64 0,.string (⟨#[]⟩ : ByteArray)]) ?_ 0 _ rfl;(with_reducible repeat first|apply blk_drewN|apply blk_drew|apply blk_alloc);exact BK259.out⟩
         have n5_ : Aside0 (Below w.heap.size w (((w17.setCell ⟨gb259,0,none⟩ (.int .i64 ((rd_T74 l0 x10_1).f0))).setCell ⟨gb259,1,none⟩ (.int .i64 ((rd_T74 l0 x10_1).f1))).setCell ⟨gb259,2,none⟩ (.string ((rd_T74 l0 x10_1).f2)))):=⟨by repeat (first|(with_reducible first|exact HB.out|apply below_alloc|apply pw_below_drewN|apply below_drew1|refine below_set ?_ GE253.out|refine below_set ?_ GE257.out|refine below_set ?_ GE259.out)|exact HB.out)⟩
         (try clear HO_258000)
         (try clear HO_258001)
         (try clear BK253)
         (try clear BK257)
         (try clear BK259)
         (try clear HB)
         generalize (((w17.setCell ⟨gb259,0,none⟩ (.int .i64 ((rd_T74 l0 x10_1).f0))).setCell ⟨gb259,1,none⟩ (.int .i64 ((rd_T74 l0 x10_1).f1))).setCell ⟨gb259,2,none⟩ (.string ((rd_T74 l0 x10_1).f2))) = w21 at n0_ n1_ n2_ n3_ n4_ n5_ ⊢
         have HO_258000:=n0_
         have HO_258001:=n1_
         have BK253:=n2_
         have BK257:=n3_
         have BK259:=n4_
         have HB:=n5_
         clear n0_ n1_ n2_ n3_ n4_ n5_
         have n0_:=Aside0.mk (Kd.R_drew HO_258000.out)
         have n1_:=Aside0.mk (Kd.R_drew HO_258001.out)
         have n2_:=Aside0.mk (blk_drew BK253.out)
         have n3_:=Aside0.mk (blk_drew BK257.out)
         have n4_:=Aside0.mk (blk_drew BK259.out)
         have n5_:=Aside0.mk (below_drew1 HB.out)
         clear HO_258000
         clear HO_258001
         clear BK253
         clear BK257
         clear BK259
         clear HB
         have HO_258000:=n0_
         have HO_258001:=n1_
         have BK253:=n2_
         have BK257:=n3_
         have BK259:=n4_
         have HB:=n5_
         clear n0_ n1_ n2_ n3_ n4_ n5_
         obtain ⟨Ao23,co23,eo23⟩:=Kd.R_slice HO_258001.out
         (first|subst eo23|(injection eo23 with f1_ f2_ f3_;have f4_:=f1_.symm;have f5_:=f3_.symm;clear f1_ f2_ f3_;subst f4_;subst f5_))
         have p260 : 0 ≤ ((ji12) : Int):=of_decide_eq_true (by assumption)
         have q260 : (ji12) < (x258001_1.length : Int):=of_decide_eq_true (by assumption)
         obtain ⟨ad260,e260,hx260_0⟩:=Kd.at_string (Kd.R_reads' HO_258001.out).2.2 (ji12) p260 q260
         cases e260
         replace p260:=eq_true p260
         replace q260:=eq_true q260
         have p16 : 0 ≤ ((ji12) : Int):=of_decide_eq_true (by assumption)
         have q16 : ((ji12) : Int) < ((x258001_1.length : Int) : Int):=of_decide_eq_true (by assumption)
         obtain ⟨go16,co16,eo16,gb16,gl16,cl16,HG16⟩:=Kd.R_form HO_258001.out (by omega)
         (first|cases eo16|(injection eo16 with ea_ en_ ec_;(first|subst ea_|(injection ea_ with ea_;subst ea_));subst ec_;clear en_))
         have GB16:=Aside0.mk gb16
         have GG16:=Aside0.mk HG16
         clear gb16 gl16 HG16
         (first|simp only [add_plain] at hx260_0|skip)
         obtain ⟨hx16_0,hf16_0⟩:=Kd.R_celln (⟨#[]⟩ : ByteArray) HO_258001.out ((ji12) : Int) p16 q16
         replace p16:=eq_true p16
         replace q16:=eq_true q16
         have HP24:=Kd.R_putn HO_258001.out ((ji12) : Int) ((rdOf ByteArray.empty x258001_1 (ji12)) ++ ((rd_T74 l0 x10_1).f2))
         rw [← Ny261.out] at HP24
         have HQ24:=Aside0.mk HP24
         clear HP24
         refine start_ (n:=13) (S:=fun w'=>w'.cell? ⟨gb257,0,none⟩ = some (u258000)∧w'.cell? ⟨gb257,1,none⟩ = some (.slice (some ⟨go16,0,none⟩) x258001_1.length co23)∧w'.cell? ⟨gb259,0,none⟩ = some (.int .i64 ((rd_T74 l0 x10_1).f0))∧w'.cell? ⟨gb259,1,none⟩ = some (.int .i64 ((rd_T74 l0 x10_1).f1))∧w'.cell? ⟨gb259,2,none⟩ = some (.string ((rd_T74 l0 x10_1).f2))∧w'.cell? ⟨go16,((ji12)).toNat,none⟩ = some (.string (rdOf ByteArray.empty x258001_1 (ji12)))) (ds:=[12]) #[false,false,false,false,false,false,false,false,false,false,false,false,false] (by kernel_rfl) rfl rfl ⟨(blk_cell BK257.out 0).trans rfl,(blk_cell BK257.out 1).trans rfl,(blk_cell BK259.out 0).trans rfl,(blk_cell BK259.out 1).trans rfl,(blk_cell BK259.out 2).trans rfl,hx260_0⟩ (fun hHeld=>?_);refine with_tabW impl_tell.tab5 impl_tell.bits5 (fun HT_ HW_=>?_)
         generalize w21.drew = w22 at HO_258000 HO_258001 BK253 BK257 BK259 HB GG16 HQ24 hf16_0 hx16_0 hx260_0 hHeld ⊢
         refine pure_ (i:=0) (N:=some 14) (v:=?_) (a':=?_) #[true,false,false,false,false,false,false,false,false,false,false,false,false] rfl rfl (any_of HT_.out (by kernel_rfl)) (fun _ _ _ h=>h) (Or.inl ⟨by rfl,?_⟩) ?_ ?_
         rotate_left
         ·intro w'
          go_simp
          with_reducible rfl
         rotate_left
         ·simp only [Act.put,List.setIfInBounds_toArray,List.set_cons_zero,List.set_cons_succ,i64_w,i32_w]
          rfl
         refine pure_ (i:=2) (N:=some 16) (v:=?_) (a':=?_) #[true,false,true,false,false,false,false,false,false,false,false,false,false] rfl rfl (any_of HT_.out (by kernel_rfl)) (fun _ _ _ h=>h) (Or.inl ⟨by rfl,?_⟩) ?_ ?_
         rotate_left
         ·intro w'
          go_simp
          with_reducible rfl
         rotate_left
         ·simp only [Act.put,List.setIfInBounds_toArray,List.set_cons_zero,List.set_cons_succ,i64_w,i32_w]
          rfl
         refine pure_ (i:=8) (N:=some 22) (v:=?_) (a':=?_) #[true,false,true,false,false,false,false,false,true,false,false,false,false] rfl rfl (any_of HT_.out (by kernel_rfl)) (fun _ _ _ h=>h) (Or.inl ⟨by rfl,?_⟩) ?_ ?_
         rotate_left
         ·intro w'
          go_simp
          with_reducible rfl
         rotate_left
         ·simp only [Act.put,List.setIfInBounds_toArray,List.set_cons_zero,List.set_cons_succ,i64_w,i32_w]
          rfl
         refine take_ (i:=1) (N:=some 15) (v:=?_) (a':=?_) #[true,true,true,false,false,false,false,false,true,false,false,false,false] rfl rfl (take_ofW HT_.out HW_.out (by kernel_rfl)) (fun _ _ _ h=>h) (Or.inl ⟨by rfl,?_⟩) hHeld ?_ ?_
         rotate_left
         ·rintro w' ⟨s0,s1,s2,s3,s4,s5⟩
          go_simp
          with_reducible rfl
         rotate_left
         ·simp only [Act.put,List.setIfInBounds_toArray,List.set_cons_zero,List.set_cons_succ,i64_w,i32_w]
          rfl
         refine take_ (i:=3) (N:=some 17) (v:=?_) (a':=?_) #[true,true,true,true,false,false,false,false,true,false,false,false,false] rfl rfl (take_ofW HT_.out HW_.out (by kernel_rfl)) (fun _ _ _ h=>h) (Or.inl ⟨by rfl,?_⟩) hHeld ?_ ?_
         rotate_left
         ·rintro w' ⟨s0,s1,s2,s3,s4,s5⟩
          go_simp
          with_reducible rfl
         rotate_left
         ·simp only [Act.put,List.setIfInBounds_toArray,List.set_cons_zero,List.set_cons_succ,i64_w,i32_w]
          rfl
         refine pure_ (i:=4) (N:=some 18) (v:=?_) (a':=?_) #[true,true,true,true,true,false,false,false,true,false,false,false,false] rfl rfl (any_of HT_.out (by kernel_rfl)) (fun _ _ _ h=>h) (Or.inl ⟨by rfl,?_⟩) ?_ ?_
         rotate_left
         ·intro w'
          go_simp
          with_reducible rfl
         rotate_left
         ·simp only [Act.put,List.setIfInBounds_toArray,List.set_cons_zero,List.set_cons_succ,i64_w,i32_w]
          rfl
         refine pure_ (i:=5) (N:=some 19) (v:=?_) (a':=?_) #[true,true,true,true,true,true,false,false,true,false,false,false,false] rfl rfl (any_of HT_.out (by kernel_rfl)) (fun _ _ _ h=>h) (Or.inl ⟨by rfl,?_⟩) ?_ ?_
         rotate_left
         ·intro w'
          go_simp
          with_reducible rfl
         rotate_left
         ·simp only [Act.put,List.setIfInBounds_toArray,List.set_cons_zero,List.set_cons_succ,i64_w,i32_w]
          rfl
         refine pure_ (i:=6) (N:=some 20) (v:=?_) (a':=?_) #[true,true,true,true,true,true,true,false,true,false,false,false,false] rfl rfl (any_of HT_.out (by kernel_rfl)) (fun _ _ _ h=>h) (Or.inl ⟨by rfl,?_⟩) ?_ ?_
         rotate_left
         ·intro w'
          go_simp
          with_reducible rfl
         rotate_left
         ·simp only [Act.put,List.setIfInBounds_toArray,List.set_cons_zero,List.set_cons_succ,i64_w,i32_w]
          rfl
         refine take_ (i:=7) (N:=some 21) (v:=?_) (a':=?_) #[true,true,true,true,true,true,true,true,true,false,false,false,false] rfl rfl (take_ofW HT_.out HW_.out (by kernel_rfl)) (fun _ _ _ h=>h) (Or.inl ⟨by rfl,?_⟩) hHeld ?_ ?_
         rotate_left
         ·rintro w' ⟨s0,s1,s2,s3,s4,s5⟩
          go_simp
          with_reducible rfl
         rotate_left
         ·simp only [Act.put,List.setIfInBounds_toArray,List.set_cons_zero,List.set_cons_succ,i64_w,i32_w]
          rfl
         refine take_ (i:=9) (N:=some 23) (v:=?_) (a':=?_) #[true,true,true,true,true,true,true,true,true,true,false,false,false] rfl rfl (take_ofW HT_.out HW_.out (by kernel_rfl)) (fun _ _ _ h=>h) (Or.inl ⟨by rfl,?_⟩) hHeld ?_ ?_
         rotate_left
         ·rintro w' ⟨s0,s1,s2,s3,s4,s5⟩
          go_simp
          with_reducible rfl
         rotate_left
         ·simp only [Act.put,List.setIfInBounds_toArray,List.set_cons_zero,List.set_cons_succ,i64_w,i32_w]
          rfl
         refine pure_ (i:=10) (N:=some 24) (v:=?_) (a':=?_) #[true,true,true,true,true,true,true,true,true,true,true,false,false] rfl rfl (any_of HT_.out (by kernel_rfl)) (fun _ _ _ h=>h) (Or.inl ⟨by rfl,?_⟩) ?_ ?_
         rotate_left
         ·intro w'
          go_simp
          with_reducible rfl
         rotate_left
         ·simp only [Act.put,List.setIfInBounds_toArray,List.set_cons_zero,List.set_cons_succ,i64_w,i32_w]
          rfl
         refine pure_ (i:=11) (N:=some 25) (v:=?_) (a':=?_) #[true,true,true,true,true,true,true,true,true,true,true,true,false] rfl rfl (any_of HT_.out (by kernel_rfl)) (fun _ _ _ h=>h) (Or.inl ⟨by rfl,?_⟩) ?_ ?_
         rotate_left
         ·intro w'
          go_simp
          with_reducible rfl
         rotate_left
         ·simp only [Act.put,List.setIfInBounds_toArray,List.set_cons_zero,List.set_cons_succ,i64_w,i32_w]
          rfl
         refine last_ (i:=12) (N:=none) #[true,true,true,true,true,true,true,true,true,true,true,true,true] rfl rfl (one_of HT_.out (by kernel_rfl)) (by decide) (fun K hK=>?_)
         refine skip_ (w1:=?_) (by rfl) rfl ?_ ?_
         rotate_left
         ·go_simp
          rfl
         refine hK.out _ _ ?_
         clear hK K
         refine done_ (done_of HT_.out (by kernel_rfl)) ?_
         have hcz25_0 : (w22.setCell ⟨go16,((ji12) : Int).toNat,none⟩ (.string ((rdOf ByteArray.empty x258001_1 (ji12)) ++ ((rd_T74 l0 x10_1).f2)))).cell? ⟨gb259,0,none⟩ = some (.int .i64 ((rd_T74 l0 x10_1).f0)):=(blk_cell (blk_far BK259.out (by have h_:=Kd.R_ne HO_258001.out BK259.out (by decide);intro e_;exact h_ (by rw [e_];rfl)) _) 0).trans rfl
         have hcz25_1 : (w22.setCell ⟨go16,((ji12) : Int).toNat,none⟩ (.string ((rdOf ByteArray.empty x258001_1 (ji12)) ++ ((rd_T74 l0 x10_1).f2)))).cell? ⟨gb259,1,none⟩ = some (.int .i64 ((rd_T74 l0 x10_1).f1)):=(blk_cell (blk_far BK259.out (by have h_:=Kd.R_ne HO_258001.out BK259.out (by decide);intro e_;exact h_ (by rw [e_];rfl)) _) 1).trans rfl
         have hcz25_2 : (w22.setCell ⟨go16,((ji12) : Int).toNat,none⟩ (.string ((rdOf ByteArray.empty x258001_1 (ji12)) ++ ((rd_T74 l0 x10_1).f2)))).cell? ⟨gb259,2,none⟩ = some (.string ((rd_T74 l0 x10_1).f2)):=(blk_cell (blk_far BK259.out (by have h_:=Kd.R_ne HO_258001.out BK259.out (by decide);intro e_;exact h_ (by rw [e_];rfl)) _) 2).trans rfl
         have hfz25_0:=blk_frozen (w:=w22.setCell ⟨go16,((ji12) : Int).toNat,none⟩ (.string ((rdOf ByteArray.empty x258001_1 (ji12)) ++ ((rd_T74 l0 x10_1).f2)))) (blk_far BK259.out (by have h_:=Kd.R_ne HO_258001.out BK259.out (by decide);intro e_;exact h_ (by rw [e_];rfl)) _) 0
         have hfz25_1:=blk_frozen (w:=w22.setCell ⟨go16,((ji12) : Int).toNat,none⟩ (.string ((rdOf ByteArray.empty x258001_1 (ji12)) ++ ((rd_T74 l0 x10_1).f2)))) (blk_far BK259.out (by have h_:=Kd.R_ne HO_258001.out BK259.out (by decide);intro e_;exact h_ (by rw [e_];rfl)) _) 1
         have hfz25_2:=blk_frozen (w:=w22.setCell ⟨go16,((ji12) : Int).toNat,none⟩ (.string ((rdOf ByteArray.empty x258001_1 (ji12)) ++ ((rd_T74 l0 x10_1).f2)))) (blk_far BK259.out (by have h_:=Kd.R_ne HO_258001.out BK259.out (by decide);intro e_;exact h_ (by rw [e_];rfl)) _) 2
         try go_wp2
         go_loopg [31] k1 (fun kq v31 w'=>∃ (x31_2 : Int) (x258000_2 : List Bool) (x258001_2 : List ByteArray) (u258000 : Value) (u258001 : Value),v31 = .int .i64 x31_2∧Aside0 (impl_tell.l1 kq l0 (l0.length : Int) x10_1 (wrap64 (((rd_T74 l0 x10_1).f0) + ((rd_T74 l0 x10_1).f1))) x31_2 x258000_2 x258001_2 ((rd_T74 l0 x10_1).f0) ((rd_T74 l0 x10_1).f1) ((rd_T74 l0 x10_1).f2) = some (r1,r2))∧Aside0 (kq ≤ k1)∧Aside0 (Kd.R Kd.bool 4 w' w.heap.size (fun _=>True) u258000 x258000_2)∧Aside0 (Kd.R Kd.string 9 w' w.heap.size (fun _=>True) u258001 x258001_2)∧Aside0 (w'.heap[gb253]? = some (.cells #[(.slice none 0 0),(.slice none 0 0)] 86 (0,0)))∧Aside0 (w'.heap[gb257]? = some (.cells #[u258000,u258001] 86 (0,0)))∧Aside0 (w'.heap[gb259]? = some (.cells #[.int .i64 ((rd_T74 l0 x10_1).f0),.int .i64 ((rd_T74 l0 x10_1).f1),.string ((rd_T74 l0 x10_1).f2)] 74 (0,0)))∧Aside0 (Below w.heap.size w w'))
         case atStart=>exact ⟨(0),(x258000_1),(y261),(u258000),(.slice (some ⟨go16,0,none⟩) x258001_1.length co23),(by first|rfl|(simp;done)|(simp [*];done)),H',⟨Nat.le_refl _⟩,⟨by (with_reducible repeat (first|apply Kd.R_alloc|apply Kd.R_drewN|apply Kd.R_drew));exact Kd.R_mono (Kd.R_far (p:=⟨go16,((ji12) : Int).toNat,none⟩) (Kd.R_types HO_258000.out GG16.out (by decide)) (fun _ hk=>hk.2) (.string ((rdOf ByteArray.empty x258001_1 (ji12)) ++ ((rd_T74 l0 x10_1).f2)))) (fun _ hk=>trivial)⟩,⟨by (with_reducible repeat (first|apply Kd.R_alloc|apply Kd.R_drewN|apply Kd.R_drew));exact HQ24.out⟩,⟨by (with_reducible repeat first|apply blk_drewN|apply blk_drew|apply blk_alloc);refine blk_far ?_ (by have h_:=Kd.R_ne HO_258001.out BK253.out (by decide);intro e_;exact h_ (by rw [e_];rfl)) _;(with_reducible repeat first|apply blk_drewN|apply blk_drew|apply blk_alloc);exact BK253.out⟩,⟨by (with_reducible repeat first|apply blk_drewN|apply blk_drew|apply blk_alloc);refine blk_far ?_ (by have h_:=Kd.R_ne HO_258001.out BK257.out (by decide);intro e_;exact h_ (by rw [e_];rfl)) _;(with_reducible repeat first|apply blk_drewN|apply blk_drew|apply blk_alloc);exact BK257.out⟩,⟨by (with_reducible repeat first|apply blk_drewN|apply blk_drew|apply blk_alloc);refine blk_far ?_ (by have h_:=Kd.R_ne HO_258001.out BK259.out (by decide);intro e_;exact h_ (by rw [e_];rfl)) _;(with_reducible repeat first|apply blk_drewN|apply blk_drew|apply blk_alloc);exact BK259.out⟩,⟨by repeat (first|(with_reducible first|exact HB.out|apply below_alloc|apply pw_below_drewN|apply below_drew1|refine below_set ?_ GB16.out|refine below_set ?_ GE253.out|refine below_set ?_ GE257.out|refine below_set ?_ GE259.out)|exact HB.out)⟩⟩
         case round =>
          clear H'
          (try clear c1);(try clear p1);(try clear q1);(try clear hx1);(try clear hf1);(try clear p2);(try clear q2);(try clear hx2);(try clear c6);(try clear p6);(try clear c7);(try clear c9);(try clear c9b0);(try clear c10);(try clear c10b0);(try clear c11);(try clear c11b0);(try clear c13);(try clear c13b0);(try clear c14);(try clear c14b0);(try clear c15);(try clear c15b0);(try clear c15b1);(try clear c15b2);(try clear p16);(try clear q16);(try clear hx16);(try clear hf16);(try clear c18);(try clear c19);(try clear p25);(try clear q25);(try clear hx25);(try clear hcz20_0);(try clear hcz20_1);(try clear hcz20_2);(try clear hcz25_0);(try clear hcz25_1);(try clear hcz25_2);(try clear hcz8_0);(try clear hcz8_1);(try clear hfz20_0);(try clear hfz20_1);(try clear hfz20_2);(try clear hfz25_0);(try clear hfz25_1);(try clear hfz25_2);(try clear hfz8_0);(try clear hfz8_1);(try clear hx16_0);(try clear hx258_0);(try clear hx258_1);(try clear hx258_2);(try clear hx260_0);(try clear p16);(try clear p2);(try clear p258);(try clear p260);(try clear q16);(try clear q258);(try clear q260);(try clear BK253);(try clear BK257);(try clear BK259)
          obtain ⟨x31_2,x258000_2,x258001_2,u258000,u258001,rfl,HA,HK2,HO_258000,HO_258001,BK253,BK257,BK259,HB⟩:=hrel
          cases gk with
          | zero=>exact absurd HA.out (by simp [impl_tell.l1])
          | succ k2 =>
           have H:=HA.out
           clear HA
           simp only [impl_tell.l1] at H
           by_cases c26 : x31_2 < (wrap64 (((rd_T74 l0 x10_1).f0) + ((rd_T74 l0 x10_1).f1)))
           ·rw [if_pos c26] at H
            have c26b0 : decide (x31_2 < (wrap64 (((rd_T74 l0 x10_1).f0) + ((rd_T74 l0 x10_1).f1)))) = true:=decide_eq_true c26
            clear c26
            obtain ⟨y262,hy262⟩ : ∃ y_ : List Bool,y_ = (([decide (((rd_T74 l0 x10_1).f0) > 0)] : List Bool)):=⟨_,rfl⟩
            replace H : (if x258000_2.length + y262.length < 140737488355328 then ((some (([(⟨#[]⟩ : ByteArray)] : List ByteArray) : List ByteArray)).bind fun y268=>(if x258001_2.length + y268.length < 8796093022208 then (impl_tell.l1 k2 l0 (l0.length : Int) x10_1 (wrap64 (((rd_T74 l0 x10_1).f0) + ((rd_T74 l0 x10_1).f1))) (wrap64 (x31_2 + 1)) (x258000_2 ++ y262) (x258001_2 ++ y268) ((rd_T74 l0 x10_1).f0) ((rd_T74 l0 x10_1).f1) ((rd_T74 l0 x10_1).f2)) else (none))) else (none)) = some (r1,r2):=by first|(rw [hy262];with_reducible exact H)|(have H2_:=(Option.bind_some _ _).symm.trans H;rw [hy262];with_reducible exact H2_)|(have H2_:=(Option.bind_some _ _).symm.trans H;with_reducible exact H2_)|with_reducible exact H|(rw [hy262];exact H)|exact H
            have Ny262:=Aside0.mk hy262
            clear hy262
            by_cases c27 : x258000_2.length + y262.length < 140737488355328
            ·rw [if_pos c27] at H
             have LMc27:=Aside0.mk c27
             clear c27
             obtain ⟨y265,hy265⟩ : ∃ y_ : List Bool,y_ = (x258000_2 ++ y262):=⟨_,rfl⟩
             replace H : ((some (([(⟨#[]⟩ : ByteArray)] : List ByteArray) : List ByteArray)).bind fun y268=>(if x258001_2.length + y268.length < 8796093022208 then (impl_tell.l1 k2 l0 (l0.length : Int) x10_1 (wrap64 (((rd_T74 l0 x10_1).f0) + ((rd_T74 l0 x10_1).f1))) (wrap64 (x31_2 + 1)) y265 (x258001_2 ++ y268) ((rd_T74 l0 x10_1).f0) ((rd_T74 l0 x10_1).f1) ((rd_T74 l0 x10_1).f2)) else (none))) = some (r1,r2):=by first|(rw [hy265];with_reducible exact H)|(have H2_:=(Option.bind_some _ _).symm.trans H;rw [hy265];with_reducible exact H2_)|(have H2_:=(Option.bind_some _ _).symm.trans H;with_reducible exact H2_)|with_reducible exact H|(rw [hy265];exact H)|exact H
             have Ny265:=Aside0.mk hy265
             clear hy265
             obtain ⟨y268,hy268⟩ : ∃ y_ : List ByteArray,y_ = (([(⟨#[]⟩ : ByteArray)] : List ByteArray)):=⟨_,rfl⟩
             replace H : (if x258001_2.length + y268.length < 8796093022208 then (impl_tell.l1 k2 l0 (l0.length : Int) x10_1 (wrap64 (((rd_T74 l0 x10_1).f0) + ((rd_T74 l0 x10_1).f1))) (wrap64 (x31_2 + 1)) y265 (x258001_2 ++ y268) ((rd_T74 l0 x10_1).f0) ((rd_T74 l0 x10_1).f1) ((rd_T74 l0 x10_1).f2)) else (none)) = some (r1,r2):=by first|(rw [hy268];with_reducible exact H)|(have H2_:=(Option.bind_some _ _).symm.trans H;rw [hy268];with_reducible exact H2_)|(have H2_:=(Option.bind_some _ _).symm.trans H;with_reducible exact H2_)|with_reducible exact H|(rw [hy268];exact H)|exact H
             have Ny268:=Aside0.mk hy268
             clear hy268
             by_cases c28 : x258001_2.length + y268.length < 8796093022208
             ·rw [if_pos c28] at H
              have LMc28:=Aside0.mk c28
              clear c28
              obtain ⟨y271,hy271⟩ : ∃ y_ : List ByteArray,y_ = (x258001_2 ++ y268):=⟨_,rfl⟩
              replace H : (impl_tell.l1 k2 l0 (l0.length : Int) x10_1 (wrap64 (((rd_T74 l0 x10_1).f0) + ((rd_T74 l0 x10_1).f1))) (wrap64 (x31_2 + 1)) y265 y271 ((rd_T74 l0 x10_1).f0) ((rd_T74 l0 x10_1).f1) ((rd_T74 l0 x10_1).f2)) = some (r1,r2):=by first|(rw [hy271];with_reducible exact H)|(have H2_:=(Option.bind_some _ _).symm.trans H;rw [hy271];with_reducible exact H2_)|(have H2_:=(Option.bind_some _ _).symm.trans H;with_reducible exact H2_)|with_reducible exact H|(rw [hy271];exact H)|exact H
              have Ny271:=Aside0.mk hy271
              clear hy271
              have H':=Aside0.mk H
              clear H
              obtain ⟨Ao29,co29,eo29⟩:=Kd.R_slice HO_258000.out
              subst eo29
              obtain ⟨Ao30,co30,eo30⟩:=Kd.R_slice HO_258001.out
              subst eo30
              try go_wp2
              have n0_:=Aside0.mk (Kd.R_drew HO_258000.out)
              have n1_:=Aside0.mk (Kd.R_drew HO_258001.out)
              have n2_:=Aside0.mk (blk_drew BK253.out)
              have n3_:=Aside0.mk (blk_drew BK257.out)
              have n4_:=Aside0.mk (blk_drew BK259.out)
              have n5_:=Aside0.mk (below_drew1 HB.out)
              clear HO_258000
              clear HO_258001
              clear BK253
              clear BK257
              clear BK259
              clear HB
              have HO_258000:=n0_
              have HO_258001:=n1_
              have BK253:=n2_
              have BK257:=n3_
              have BK259:=n4_
              have HB:=n5_
              clear n0_ n1_ n2_ n3_ n4_ n5_
              refine start_ (n:=15) (S:=fun w'=>w'.cell? ⟨gb257,0,none⟩ = some (.slice Ao29 x258000_2.length co29)∧w'.cell? ⟨gb257,1,none⟩ = some (.slice Ao30 x258001_2.length co30)∧w'.cell? ⟨gb259,0,none⟩ = some (.int .i64 ((rd_T74 l0 x10_1).f0))∧w'.cell? ⟨gb259,1,none⟩ = some (.int .i64 ((rd_T74 l0 x10_1).f1))∧w'.cell? ⟨gb259,2,none⟩ = some (.string ((rd_T74 l0 x10_1).f2))) (ds:=[12,14]) #[false,false,false,false,false,false,false,false,false,false,false,false,false,false,false] (by kernel_rfl) rfl rfl ⟨(blk_cell BK257.out 0).trans rfl,(blk_cell BK257.out 1).trans rfl,(blk_cell BK259.out 0).trans rfl,(blk_cell BK259.out 1).trans rfl,(blk_cell BK259.out 2).trans rfl⟩ (fun hHeld=>?_);refine with_tabW impl_tell.tab8 impl_tell.bits8 (fun HT_ HW_=>?_)
              generalize wr.drew = w31 at HO_258000 HO_258001 BK253 BK257 BK259 HB hHeld ⊢
              refine pure_ (i:=0) (N:=some 33) (v:=?_) (a':=?_) #[true,false,false,false,false,false,false,false,false,false,false,false,false,false,false] rfl rfl (any_of HT_.out (by kernel_rfl)) (fun _ _ _ h=>h) (Or.inl ⟨by rfl,?_⟩) ?_ ?_
              rotate_left
              ·intro w'
               go_simp
               with_reducible rfl
              rotate_left
              ·simp only [Act.put,List.setIfInBounds_toArray,List.set_cons_zero,List.set_cons_succ,i64_w,i32_w]
               rfl
              refine pure_ (i:=2) (N:=some 35) (v:=?_) (a':=?_) #[true,false,true,false,false,false,false,false,false,false,false,false,false,false,false] rfl rfl (any_of HT_.out (by kernel_rfl)) (fun _ _ _ h=>h) (Or.inl ⟨by rfl,?_⟩) ?_ ?_
              rotate_left
              ·intro w'
               go_simp
               with_reducible rfl
              rotate_left
              ·simp only [Act.put,List.setIfInBounds_toArray,List.set_cons_zero,List.set_cons_succ,i64_w,i32_w]
               rfl
              refine pure_ (i:=7) (N:=some 40) (v:=?_) (a':=?_) #[true,false,true,false,false,false,false,true,false,false,false,false,false,false,false] rfl rfl (any_of HT_.out (by kernel_rfl)) (fun _ _ _ h=>h) (Or.inl ⟨by rfl,?_⟩) ?_ ?_
              rotate_left
              ·intro w'
               go_simp
               with_reducible rfl
              rotate_left
              ·simp only [Act.put,List.setIfInBounds_toArray,List.set_cons_zero,List.set_cons_succ,i64_w,i32_w]
               rfl
              refine take_ (i:=1) (N:=some 34) (v:=?_) (a':=?_) #[true,true,true,false,false,false,false,true,false,false,false,false,false,false,false] rfl rfl (take_ofW HT_.out HW_.out (by kernel_rfl)) (fun _ _ _ h=>h) (Or.inl ⟨by rfl,?_⟩) hHeld ?_ ?_
              rotate_left
              ·rintro w' ⟨s0,s1,s2,s3,s4⟩
               go_simp
               with_reducible rfl
              rotate_left
              ·simp only [Act.put,List.setIfInBounds_toArray,List.set_cons_zero,List.set_cons_succ,i64_w,i32_w]
               rfl
              refine take_ (i:=3) (N:=some 36) (v:=?_) (a':=?_) #[true,true,true,true,false,false,false,true,false,false,false,false,false,false,false] rfl rfl (take_ofW HT_.out HW_.out (by kernel_rfl)) (fun _ _ _ h=>h) (Or.inl ⟨by rfl,?_⟩) hHeld ?_ ?_
              rotate_left
              ·rintro w' ⟨s0,s1,s2,s3,s4⟩
               go_simp
               with_reducible rfl
              rotate_left
              ·simp only [Act.put,List.setIfInBounds_toArray,List.set_cons_zero,List.set_cons_succ,i64_w,i32_w]
               rfl
              refine pure_ (i:=4) (N:=some 37) (v:=?_) (a':=?_) #[true,true,true,true,true,false,false,true,false,false,false,false,false,false,false] rfl rfl (any_of HT_.out (by kernel_rfl)) (fun _ _ _ h=>h) (Or.inl ⟨by rfl,?_⟩) ?_ ?_
              rotate_left
              ·intro w'
               go_simp
               with_reducible rfl
              rotate_left
              ·simp only [Act.put,List.setIfInBounds_toArray,List.set_cons_zero,List.set_cons_succ,i64_w,i32_w]
               rfl
              refine take_ (i:=8) (N:=some 41) (v:=?_) (a':=?_) #[true,true,true,true,true,false,false,true,true,false,false,false,false,false,false] rfl rfl (take_ofW HT_.out HW_.out (by kernel_rfl)) (fun _ _ _ h=>h) (Or.inl ⟨by rfl,?_⟩) hHeld ?_ ?_
              rotate_left
              ·rintro w' ⟨s0,s1,s2,s3,s4⟩
               go_simp
               with_reducible rfl
              rotate_left
              ·simp only [Act.put,List.setIfInBounds_toArray,List.set_cons_zero,List.set_cons_succ,i64_w,i32_w]
               rfl
              refine join_ (σ:=Value × Value × Value) 4 #[true,true,true,true,true,true,true,true,true,true,false,true,false,false,false] (fun s_=>[(38,s_.1),(39,s_.2.1),(42,s_.2.2),(44,.pointer (some ⟨gb257,0,none⟩))]) (fun s_ w'=>(w'.cell? ⟨gb257,0,none⟩ = some (.slice Ao29 x258000_2.length co29)∧w'.cell? ⟨gb257,1,none⟩ = some (.slice Ao30 x258001_2.length co30)∧w'.cell? ⟨gb259,0,none⟩ = some (.int .i64 ((rd_T74 l0 x10_1).f0))∧w'.cell? ⟨gb259,1,none⟩ = some (.int .i64 ((rd_T74 l0 x10_1).f1))∧w'.cell? ⟨gb259,2,none⟩ = some (.string ((rd_T74 l0 x10_1).f2)))∧(Kd.R Kd.bool 4 w' w.heap.size (fun k_=>some k_ ≠ (s_.2.1 : Value).ownBlock) s_.1 y262)∧(Kd.R Kd.bool 4 w' w.heap.size (fun k_=>some k_ ≠ (s_.1 : Value).ownBlock) s_.2.1 y265)∧(Kd.R Kd.string 9 w' w.heap.size (fun k_=>some k_ ≠ (.slice Ao30 x258001_2.length co30 : Value).ownBlock) s_.2.2 y268)∧(Kd.R Kd.string 9 w' w.heap.size (fun k_=>some k_ ≠ (s_.2.2 : Value).ownBlock) (.slice Ao30 x258001_2.length co30) x258001_2)∧(w'.heap[gb253]? = some (.cells #[.slice none 0 0,.slice none 0 0] 86 (0,0)))∧(w'.heap[gb257]? = some (.cells #[.slice Ao29 x258000_2.length co29,.slice Ao30 x258001_2.length co30] 86 (0,0)))∧(w'.heap[gb259]? = some (.cells #[.int .i64 ((rd_T74 l0 x10_1).f0),.int .i64 ((rd_T74 l0 x10_1).f1),.string ((rd_T74 l0 x10_1).f2)] 74 (0,0)))∧(Below w.heap.size w w')) ?_ ?_
              rotate_left
              ·intro hCont
               refine two_ (i:=5) (j:=9) (Ni:=some 38) (Nj:=some 42) #[true,true,true,true,true,true,false,true,true,false,false,false,false,false,false] #[true,true,true,true,true,false,false,true,true,true,false,false,false,false,false] rfl rfl rfl rfl (two_of HT_.out (by kernel_rfl)) (by decide) (by decide) (fun K hK=>?_) (fun K hK=>?_)
               ·skip
                refine Kd.R_lit_step Kd.bool _ 4 ?hg (N:=38) ?hd (xs:=([decide (((rd_T74 l0 x10_1).f0) > 0)] : List Bool)) (inner:=[.bool (decide (((rd_T74 l0 x10_1).f0) > 0))]) (ok:=fun _=>True) (okp:=fun _=>True) ?hr ?hp (fun _ hk=>hk) trivial (Below.refl _ _) (Nat.le_refl _) (by simp) ?_;(case hd=>rfl);(case hg=>rfl);(case hr=>first|(go_simp;done)|(go_simp;rfl));(case hp=>exact (Reps.one (show Kd.M Kd.bool _ _ _ (decide (((rd_T74 l0 x10_1).f0) > 0)) [.bool (decide (((rd_T74 l0 x10_1).f0) > 0))] from rfl) (Reps.none _ _)))
                intro v263 w32 ho33 hb hg_ hnew_
                clear hg_ hnew_
                (first|rw [← Ny262.out] at ho33|(simp only [Int.reduceToNat] at ho33;rw [← Ny262.out] at ho33))
                have n0_:=Aside0.mk (Kd.R_elder' (by (with_reducible repeat (first|apply Kd.R_alloc|apply Kd.R_drewN|apply Kd.R_drew));exact HO_258000.out) (Kd.R_base ho33) hb)
                have n1_:=Aside0.mk (Kd.R_below (by (with_reducible repeat (first|apply Kd.R_alloc|apply Kd.R_drewN|apply Kd.R_drew));exact HO_258001.out) hb)
                have n2_:=Aside0.mk (Kd.R_lower (Kd.R_new' ho33 (Kd.R_lt (by (with_reducible repeat (first|apply Kd.R_alloc|apply Kd.R_drewN|apply Kd.R_drew));exact HO_258000.out))) (below_size (by repeat (first|(with_reducible first|exact HB.out|apply below_alloc|apply pw_below_drewN|apply below_drew1|refine below_set ?_ GE253.out|refine below_set ?_ GE257.out|refine below_set ?_ GE259.out)|exact HB.out))))
                have n3_:=Aside0.mk (blk_below (g:=gb253) (o:=.cells #[.slice none 0 0,.slice none 0 0] 86 (0,0)) (by (with_reducible repeat first|apply blk_drewN|apply blk_drew|apply blk_alloc);exact BK253.out) hb)
                have n4_:=Aside0.mk (blk_below (g:=gb257) (o:=.cells #[.slice Ao29 x258000_2.length co29,.slice Ao30 x258001_2.length co30] 86 (0,0)) (by (with_reducible repeat first|apply blk_drewN|apply blk_drew|apply blk_alloc);exact BK257.out) hb)
                have n5_:=Aside0.mk (blk_below (g:=gb259) (o:=.cells #[.int .i64 ((rd_T74 l0 x10_1).f0),.int .i64 ((rd_T74 l0 x10_1).f1),.string ((rd_T74 l0 x10_1).f2)] 74 (0,0)) (by (with_reducible repeat first|apply blk_drewN|apply blk_drew|apply blk_alloc);exact BK259.out) hb)
                have n6_:=Aside0.mk (below_step (by repeat (first|(with_reducible first|exact HB.out|apply below_alloc|apply pw_below_drewN|apply below_drew1|refine below_set ?_ GE253.out|refine below_set ?_ GE257.out|refine below_set ?_ GE259.out)|exact HB.out)) hb)
                clear HO_258000
                clear HO_258001
                clear BK253
                clear BK257
                clear BK259
                clear HB
                have HO_258000:=n0_
                have HO_258001:=n1_
                have HO264:=n2_
                have BK253:=n3_
                have BK257:=n4_
                have BK259:=n5_
                have HB:=n6_
                clear n0_ n1_ n2_ n3_ n4_ n5_ n6_
                clear hb ho33
                obtain ⟨Ao35,co35,eo35⟩:=Kd.R_slice HO264.out
                (first|subst eo35|(injection eo35 with f1_ f2_ f3_;have f4_:=f1_.symm;have f5_:=f3_.symm;clear f1_ f2_ f3_;subst f4_;subst f5_))
                refine hK.out _ _ ⟨(blk_cell BK257.out 0).trans rfl,(blk_cell BK257.out 1).trans rfl,(blk_cell BK259.out 0).trans rfl,(blk_cell BK259.out 1).trans rfl,(blk_cell BK259.out 2).trans rfl⟩ (fun hHeld=>?_)
                clear hK K
                refine norm_ (a':=?_) ?_ ?_
                rotate_left
                ·show Act.put _ (some 38) _ = _
                 simp only [Act.put,List.setIfInBounds_toArray,List.set_cons_zero,List.set_cons_succ,i64_w,i32_w]
                 rfl
                refine two_ (i:=6) (j:=9) (Ni:=some 39) (Nj:=some 42) #[true,true,true,true,true,true,true,true,true,false,false,false,false,false,false] #[true,true,true,true,true,true,false,true,true,true,false,false,false,false,false] rfl rfl rfl rfl (two_of HT_.out (by kernel_rfl)) (by decide) (by decide) (fun K hK=>?_) (fun K hK=>?_)
                ·skip
                 refine Kd.R_append_rows_step Kd.bool (w0:=w) w.heap.size (by rfl) (.tmp 34) (.tmp 38) 83 4 (.bool false) 1 rfl Try.underlying83 info4 rfl (by decide) (by omega) (.slice Ao29 x258000_2.length co29) x258000_2 y262 _ _ _ (fun k_=>some k_ ≠ (.slice Ao35 y262.length co35 : Value).ownBlock) (fun _=>False) rfl rfl ?aO ?aR (fun _ _ h=>h) (fun _ h=>h.elim) ?aF ?aB ?aS ?aL ?_
                 (case aR=>repeat (first|exact (Kd.R_reads' HO264.out).2.2|(with_reducible first|apply Kd.C_alloc|apply Kd.C_drewN|apply Kd.C_drew)))
                 (case aB=>exact (by repeat (first|(with_reducible first|exact HB.out|apply below_alloc|apply pw_below_drewN|apply below_drew1|refine below_set ?_ GE253.out|refine below_set ?_ GE257.out|refine below_set ?_ GE259.out)|exact HB.out)))
                 (case aF=>exact (fun k_ hk=>Kd.fresh' (Kd.R_lt (by (with_reducible repeat (first|apply Kd.R_alloc|apply Kd.R_drewN|apply Kd.R_drew));exact HO264.out)) k_ hk))
                 (case aO=>exact (by (with_reducible repeat (first|apply Kd.R_alloc|apply Kd.R_drewN|apply Kd.R_drew));exact Kd.R_mono HO_258000.out (fun _ hk=>hk.2)))
                 (case aS=>exact (below_size (by repeat (first|(with_reducible first|exact HB.out|apply below_alloc|apply pw_below_drewN|apply below_drew1|refine below_set ?_ GE253.out|refine below_set ?_ GE257.out|refine below_set ?_ GE259.out)|exact HB.out))))
                 (case aL=>have:=LMc27.out;omega)
                 intro v266 w34 ho hb hg hat
                 rw [← Ny265.out] at ho
                 have n0_:=Aside0.mk (Kd.R_over' (by (with_reducible repeat (first|apply Kd.R_alloc|apply Kd.R_drewN|apply Kd.R_drew));exact HO_258001.out) (Kd.R_typed (by (with_reducible repeat (first|apply Kd.R_alloc|apply Kd.R_drewN|apply Kd.R_drew));exact HO_258000.out)) (by decide) hg)
                 have n1_:=Aside0.mk (blk_grown (g:=gb253) (o:=.cells #[.slice none 0 0,.slice none 0 0] 86 (0,0)) (by (with_reducible repeat first|apply blk_drewN|apply blk_drew|apply blk_alloc);exact BK253.out) hg (Kd.R_ne HO_258000.out BK253.out (by decide)))
                 have n2_:=Aside0.mk (blk_grown (g:=gb257) (o:=.cells #[.slice Ao29 x258000_2.length co29,.slice Ao30 x258001_2.length co30] 86 (0,0)) (by (with_reducible repeat first|apply blk_drewN|apply blk_drew|apply blk_alloc);exact BK257.out) hg (Kd.R_ne HO_258000.out BK257.out (by decide)))
                 have n3_:=Aside0.mk (blk_grown (g:=gb259) (o:=.cells #[.int .i64 ((rd_T74 l0 x10_1).f0),.int .i64 ((rd_T74 l0 x10_1).f1),.string ((rd_T74 l0 x10_1).f2)] 74 (0,0)) (by (with_reducible repeat first|apply blk_drewN|apply blk_drew|apply blk_alloc);exact BK259.out) hg (Kd.R_ne HO_258000.out BK259.out (by decide)))
                 have n4_:=Aside0.mk (Kd.R_after (ok:=(fun _=>True)) (by (with_reducible repeat (first|apply Kd.R_alloc|apply Kd.R_drewN|apply Kd.R_drew));exact HO264.out) hg hat)
                 have n5_:=Aside0.mk (hb)
                 have n6_:=Aside0.mk (ho)
                 clear HO_258001
                 clear BK253
                 clear BK257
                 clear BK259
                 clear HO264
                 clear HB
                 clear HO_258000
                 have HO_258001:=n0_
                 have BK253:=n1_
                 have BK257:=n2_
                 have BK259:=n3_
                 have HO264:=n4_
                 have HB:=n5_
                 have HO267:=n6_
                 clear n0_ n1_ n2_ n3_ n4_ n5_ n6_
                 clear ho hb hg hat
                 refine hK.out _ _ ⟨(blk_cell BK257.out 0).trans rfl,(blk_cell BK257.out 1).trans rfl,(blk_cell BK259.out 0).trans rfl,(blk_cell BK259.out 1).trans rfl,(blk_cell BK259.out 2).trans rfl⟩ (fun hHeld=>?_)
                 clear hK K
                 refine norm_ (a':=?_) ?_ ?_
                 rotate_left
                 ·show Act.put _ (some 39) _ = _
                  simp only [Act.put,List.setIfInBounds_toArray,List.set_cons_zero,List.set_cons_succ,i64_w,i32_w]
                  rfl
                 refine pure_ (i:=11) (N:=some 44) (v:=?_) (a':=?_) #[true,true,true,true,true,true,true,true,true,false,false,true,false,false,false] rfl rfl (any_of HT_.out (by kernel_rfl)) (fun _ _ _ h=>h) (Or.inl ⟨by rfl,?_⟩) ?_ ?_
                 rotate_left
                 ·intro w'
                  go_simp
                  with_reducible rfl
                 rotate_left
                 ·simp only [Act.put,List.setIfInBounds_toArray,List.set_cons_zero,List.set_cons_succ,i64_w,i32_w]
                  rfl
                 refine one_ (i:=9) (N:=some 42) #[true,true,true,true,true,true,true,true,true,true,false,true,false,false,false] rfl rfl (one_of HT_.out (by kernel_rfl)) (by decide) (fun K hK=>?_)
                 refine Kd.R_lit_step Kd.string _ 9 ?hg (N:=42) ?hd (xs:=([(⟨#[]⟩ : ByteArray)] : List ByteArray)) (inner:=[.string (⟨#[]⟩ : ByteArray)]) (ok:=fun _=>True) (okp:=fun _=>True) ?hr ?hp (fun _ hk=>hk) trivial (Below.refl _ _) (Nat.le_refl _) (by simp) ?_;(case hd=>rfl);(case hg=>rfl);(case hr=>first|(go_simp;done)|(go_simp;rfl));(case hp=>exact (Reps.one (show Kd.M Kd.string _ _ _ (⟨#[]⟩ : ByteArray) [.string (⟨#[]⟩ : ByteArray)] from rfl) (Reps.none _ _)))
                 intro v269 w36 ho37 hb hg_ hnew_
                 clear hg_ hnew_
                 (first|rw [← Ny268.out] at ho37|(simp only [Int.reduceToNat] at ho37;rw [← Ny268.out] at ho37))
                 have n0_:=Aside0.mk (Kd.R_elder' (by (with_reducible repeat (first|apply Kd.R_alloc|apply Kd.R_drewN|apply Kd.R_drew));exact HO_258001.out) (Kd.R_base ho37) hb)
                 have n1_:=Aside0.mk (Kd.R_below (by (with_reducible repeat (first|apply Kd.R_alloc|apply Kd.R_drewN|apply Kd.R_drew));exact HO264.out) hb)
                 have n2_:=Aside0.mk (Kd.R_below (by (with_reducible repeat (first|apply Kd.R_alloc|apply Kd.R_drewN|apply Kd.R_drew));exact HO267.out) hb)
                 have n3_:=Aside0.mk (Kd.R_lower (Kd.R_new' ho37 (Kd.R_lt (by (with_reducible repeat (first|apply Kd.R_alloc|apply Kd.R_drewN|apply Kd.R_drew));exact HO_258001.out))) (below_size (by repeat (first|(with_reducible first|exact HB.out|apply below_alloc|apply pw_below_drewN|apply below_drew1|refine below_set ?_ GE253.out|refine below_set ?_ GE257.out|refine below_set ?_ GE259.out)|exact HB.out))))
                 have n4_:=Aside0.mk (blk_below (g:=gb253) (o:=.cells #[.slice none 0 0,.slice none 0 0] 86 (0,0)) (by (with_reducible repeat first|apply blk_drewN|apply blk_drew|apply blk_alloc);exact BK253.out) hb)
                 have n5_:=Aside0.mk (blk_below (g:=gb257) (o:=.cells #[.slice Ao29 x258000_2.length co29,.slice Ao30 x258001_2.length co30] 86 (0,0)) (by (with_reducible repeat first|apply blk_drewN|apply blk_drew|apply blk_alloc);exact BK257.out) hb)
                 have n6_:=Aside0.mk (blk_below (g:=gb259) (o:=.cells #[.int .i64 ((rd_T74 l0 x10_1).f0),.int .i64 ((rd_T74 l0 x10_1).f1),.string ((rd_T74 l0 x10_1).f2)] 74 (0,0)) (by (with_reducible repeat first|apply blk_drewN|apply blk_drew|apply blk_alloc);exact BK259.out) hb)
                 have n7_:=Aside0.mk (below_step (by repeat (first|(with_reducible first|exact HB.out|apply below_alloc|apply pw_below_drewN|apply below_drew1|refine below_set ?_ GE253.out|refine below_set ?_ GE257.out|refine below_set ?_ GE259.out)|exact HB.out)) hb)
                 clear HO_258001
                 clear HO264
                 clear HO267
                 clear BK253
                 clear BK257
                 clear BK259
                 clear HB
                 have HO_258001:=n0_
                 have HO264:=n1_
                 have HO267:=n2_
                 have HO270:=n3_
                 have BK253:=n4_
                 have BK257:=n5_
                 have BK259:=n6_
                 have HB:=n7_
                 clear n0_ n1_ n2_ n3_ n4_ n5_ n6_ n7_
                 clear hb ho37
                 refine hK.out _ _ ⟨(blk_cell BK257.out 0).trans rfl,(blk_cell BK257.out 1).trans rfl,(blk_cell BK259.out 0).trans rfl,(blk_cell BK259.out 1).trans rfl,(blk_cell BK259.out 2).trans rfl⟩ (fun hHeld=>?_)
                 clear hK K
                 refine norm_ (a':=?_) ?_ ?_
                 rotate_left
                 ·show Act.put _ (some 42) _ = _
                  simp only [Act.put,List.setIfInBounds_toArray,List.set_cons_zero,List.set_cons_succ,i64_w,i32_w]
                  rfl
                 exact norm_ (by simp only [putAll,Act.put,List.setIfInBounds_toArray,List.set_cons_zero,List.set_cons_succ]) (hCont (.slice Ao35 y262.length co35,v266,v269) _ ⟨hHeld,(by (with_reducible repeat (first|apply Kd.R_alloc|apply Kd.R_drewN|apply Kd.R_drew));exact Kd.R_mono HO264.out (fun _ hk=>hk.2)),(by (with_reducible repeat (first|apply Kd.R_alloc|apply Kd.R_drewN|apply Kd.R_drew));exact HO267.out),(by (with_reducible repeat (first|apply Kd.R_alloc|apply Kd.R_drewN|apply Kd.R_drew));exact Kd.R_mono HO270.out (fun _ hk=>hk.2)),(by (with_reducible repeat (first|apply Kd.R_alloc|apply Kd.R_drewN|apply Kd.R_drew));exact Kd.R_mono HO_258001.out (fun _ hk=>hk.2)),(by (with_reducible repeat first|apply blk_drewN|apply blk_drew|apply blk_alloc);exact BK253.out),(by (with_reducible repeat first|apply blk_drewN|apply blk_drew|apply blk_alloc);exact BK257.out),(by (with_reducible repeat first|apply blk_drewN|apply blk_drew|apply blk_alloc);exact BK259.out),(by repeat (first|(with_reducible first|exact HB.out|apply below_alloc|apply pw_below_drewN|apply below_drew1|refine below_set ?_ GE253.out|refine below_set ?_ GE257.out|refine below_set ?_ GE259.out)|exact HB.out))⟩)
                ·skip
                 refine Kd.R_lit_step Kd.string _ 9 ?hg (N:=42) ?hd (xs:=([(⟨#[]⟩ : ByteArray)] : List ByteArray)) (inner:=[.string (⟨#[]⟩ : ByteArray)]) (ok:=fun _=>True) (okp:=fun _=>True) ?hr ?hp (fun _ hk=>hk) trivial (Below.refl _ _) (Nat.le_refl _) (by simp) ?_;(case hd=>rfl);(case hg=>rfl);(case hr=>first|(go_simp;done)|(go_simp;rfl));(case hp=>exact (Reps.one (show Kd.M Kd.string _ _ _ (⟨#[]⟩ : ByteArray) [.string (⟨#[]⟩ : ByteArray)] from rfl) (Reps.none _ _)))
                 intro v269 w34 ho35 hb hg_ hnew_
                 clear hg_ hnew_
                 (first|rw [← Ny268.out] at ho35|(simp only [Int.reduceToNat] at ho35;rw [← Ny268.out] at ho35))
                 have n0_:=Aside0.mk (Kd.R_below (by (with_reducible repeat (first|apply Kd.R_alloc|apply Kd.R_drewN|apply Kd.R_drew));exact HO_258000.out) hb)
                 have n1_:=Aside0.mk (Kd.R_elder' (by (with_reducible repeat (first|apply Kd.R_alloc|apply Kd.R_drewN|apply Kd.R_drew));exact HO_258001.out) (Kd.R_base ho35) hb)
                 have n2_:=Aside0.mk (Kd.R_below (by (with_reducible repeat (first|apply Kd.R_alloc|apply Kd.R_drewN|apply Kd.R_drew));exact HO264.out) hb)
                 have n3_:=Aside0.mk (Kd.R_lower (Kd.R_new' ho35 (Kd.R_lt (by (with_reducible repeat (first|apply Kd.R_alloc|apply Kd.R_drewN|apply Kd.R_drew));exact HO_258001.out))) (below_size (by repeat (first|(with_reducible first|exact HB.out|apply below_alloc|apply pw_below_drewN|apply below_drew1|refine below_set ?_ GE253.out|refine below_set ?_ GE257.out|refine below_set ?_ GE259.out)|exact HB.out))))
                 have n4_:=Aside0.mk (blk_below (g:=gb253) (o:=.cells #[.slice none 0 0,.slice none 0 0] 86 (0,0)) (by (with_reducible repeat first|apply blk_drewN|apply blk_drew|apply blk_alloc);exact BK253.out) hb)
                 have n5_:=Aside0.mk (blk_below (g:=gb257) (o:=.cells #[.slice Ao29 x258000_2.length co29,.slice Ao30 x258001_2.length co30] 86 (0,0)) (by (with_reducible repeat first|apply blk_drewN|apply blk_drew|apply blk_alloc);exact BK257.out) hb)
                 have n6_:=Aside0.mk (blk_below (g:=gb259) (o:=.cells #[.int .i64 ((rd_T74 l0 x10_1).f0),.int .i64 ((rd_T74 l0 x10_1).f1),.string ((rd_T74 l0 x10_1).f2)] 74 (0,0)) (by (with_reducible repeat first|apply blk_drewN|apply blk_drew|apply blk_alloc);exact BK259.out) hb)
                 have n7_:=Aside0.mk (below_step (by repeat (first|(with_reducible first|exact HB.out|apply below_alloc|apply pw_below_drewN|apply below_drew1|refine below_set ?_ GE253.out|refine below_set ?_ GE257.out|refine below_set ?_ GE259.out)|exact HB.out)) hb)
                 clear HO_258000
                 clear HO_258001
                 clear HO264
                 clear BK253
                 clear BK257
                 clear BK259
                 clear HB
                 have HO_258000:=n0_
                 have HO_258001:=n1_
                 have HO264:=n2_
                 have HO270:=n3_
                 have BK253:=n4_
                 have BK257:=n5_
                 have BK259:=n6_
                 have HB:=n7_
                 clear n0_ n1_ n2_ n3_ n4_ n5_ n6_ n7_
                 clear hb ho35
                 obtain ⟨Ao37,co37,eo37⟩:=Kd.R_slice HO264.out
                 (first|subst eo37|(injection eo37 with f1_ f2_ f3_;have f4_:=f1_.symm;have f5_:=f3_.symm;clear f1_ f2_ f3_;subst f4_;subst f5_))
                 refine hK.out _ _ ⟨(blk_cell BK257.out 0).trans rfl,(blk_cell BK257.out 1).trans rfl,(blk_cell BK259.out 0).trans rfl,(blk_cell BK259.out 1).trans rfl,(blk_cell BK259.out 2).trans rfl⟩ (fun hHeld=>?_)
                 clear hK K
                 refine norm_ (a':=?_) ?_ ?_
                 rotate_left
                 ·show Act.put _ (some 42) _ = _
                  simp only [Act.put,List.setIfInBounds_toArray,List.set_cons_zero,List.set_cons_succ,i64_w,i32_w]
                  rfl
                 refine one_ (i:=6) (N:=some 39) #[true,true,true,true,true,true,true,true,true,true,false,false,false,false,false] rfl rfl (one_of HT_.out (by kernel_rfl)) (by decide) (fun K hK=>?_)
                 refine Kd.R_append_rows_step Kd.bool (w0:=w) w.heap.size (by rfl) (.tmp 34) (.tmp 38) 83 4 (.bool false) 1 rfl Try.underlying83 info4 rfl (by decide) (by omega) (.slice Ao29 x258000_2.length co29) x258000_2 y262 _ _ _ (fun k_=>some k_ ≠ (.slice Ao37 y262.length co37 : Value).ownBlock) (fun _=>False) rfl rfl ?aO ?aR (fun _ _ h=>h) (fun _ h=>h.elim) ?aF ?aB ?aS ?aL ?_
                 (case aR=>repeat (first|exact (Kd.R_reads' HO264.out).2.2|(with_reducible first|apply Kd.C_alloc|apply Kd.C_drewN|apply Kd.C_drew)))
                 (case aB=>exact (by repeat (first|(with_reducible first|exact HB.out|apply below_alloc|apply pw_below_drewN|apply below_drew1|refine below_set ?_ GE253.out|refine below_set ?_ GE257.out|refine below_set ?_ GE259.out)|exact HB.out)))
                 (case aF=>exact (fun k_ hk=>Kd.fresh' (Kd.R_lt (by (with_reducible repeat (first|apply Kd.R_alloc|apply Kd.R_drewN|apply Kd.R_drew));exact HO264.out)) k_ hk))
                 (case aO=>exact (by (with_reducible repeat (first|apply Kd.R_alloc|apply Kd.R_drewN|apply Kd.R_drew));exact Kd.R_mono HO_258000.out (fun _ hk=>hk.2)))
                 (case aS=>exact (below_size (by repeat (first|(with_reducible first|exact HB.out|apply below_alloc|apply pw_below_drewN|apply below_drew1|refine below_set ?_ GE253.out|refine below_set ?_ GE257.out|refine below_set ?_ GE259.out)|exact HB.out))))
                 (case aL=>have:=LMc27.out;omega)
                 intro v266 w36 ho hb hg hat
                 rw [← Ny265.out] at ho
                 have n0_:=Aside0.mk (Kd.R_over' (by (with_reducible repeat (first|apply Kd.R_alloc|apply Kd.R_drewN|apply Kd.R_drew));exact HO_258001.out) (Kd.R_typed (by (with_reducible repeat (first|apply Kd.R_alloc|apply Kd.R_drewN|apply Kd.R_drew));exact HO_258000.out)) (by decide) hg)
                 have n1_:=Aside0.mk (blk_grown (g:=gb253) (o:=.cells #[.slice none 0 0,.slice none 0 0] 86 (0,0)) (by (with_reducible repeat first|apply blk_drewN|apply blk_drew|apply blk_alloc);exact BK253.out) hg (Kd.R_ne HO_258000.out BK253.out (by decide)))
                 have n2_:=Aside0.mk (blk_grown (g:=gb257) (o:=.cells #[.slice Ao29 x258000_2.length co29,.slice Ao30 x258001_2.length co30] 86 (0,0)) (by (with_reducible repeat first|apply blk_drewN|apply blk_drew|apply blk_alloc);exact BK257.out) hg (Kd.R_ne HO_258000.out BK257.out (by decide)))
                 have n3_:=Aside0.mk (blk_grown (g:=gb259) (o:=.cells #[.int .i64 ((rd_T74 l0 x10_1).f0),.int .i64 ((rd_T74 l0 x10_1).f1),.string ((rd_T74 l0 x10_1).f2)] 74 (0,0)) (by (with_reducible repeat first|apply blk_drewN|apply blk_drew|apply blk_alloc);exact BK259.out) hg (Kd.R_ne HO_258000.out BK259.out (by decide)))
                 have n4_:=Aside0.mk (Kd.R_after (ok:=(fun _=>True)) (by (with_reducible repeat (first|apply Kd.R_alloc|apply Kd.R_drewN|apply Kd.R_drew));exact HO264.out) hg hat)
                 have n5_:=Aside0.mk (Kd.R_over' (by (with_reducible repeat (first|apply Kd.R_alloc|apply Kd.R_drewN|apply Kd.R_drew));exact HO270.out) (Kd.R_typed (by (with_reducible repeat (first|apply Kd.R_alloc|apply Kd.R_drewN|apply Kd.R_drew));exact HO_258000.out)) (by decide) hg)
                 have n6_:=Aside0.mk (hb)
                 have n7_:=Aside0.mk (ho)
                 clear HO_258001
                 clear BK253
                 clear BK257
                 clear BK259
                 clear HO264
                 clear HO270
                 clear HB
                 clear HO_258000
                 have HO_258001:=n0_
                 have BK253:=n1_
                 have BK257:=n2_
                 have BK259:=n3_
                 have HO264:=n4_
                 have HO270:=n5_
                 have HB:=n6_
                 have HO267:=n7_
                 clear n0_ n1_ n2_ n3_ n4_ n5_ n6_ n7_
                 clear ho hb hg hat
                 refine hK.out _ _ ⟨(blk_cell BK257.out 0).trans rfl,(blk_cell BK257.out 1).trans rfl,(blk_cell BK259.out 0).trans rfl,(blk_cell BK259.out 1).trans rfl,(blk_cell BK259.out 2).trans rfl⟩ (fun hHeld=>?_)
                 clear hK K
                 refine norm_ (a':=?_) ?_ ?_
                 rotate_left
                 ·show Act.put _ (some 39) _ = _
                  simp only [Act.put,List.setIfInBounds_toArray,List.set_cons_zero,List.set_cons_succ,i64_w,i32_w]
                  rfl
                 refine pure_ (i:=11) (N:=some 44) (v:=?_) (a':=?_) #[true,true,true,true,true,true,true,true,true,true,false,true,false,false,false] rfl rfl (any_of HT_.out (by kernel_rfl)) (fun _ _ _ h=>h) (Or.inl ⟨by rfl,?_⟩) ?_ ?_
                 rotate_left
                 ·intro w'
                  go_simp
                  with_reducible rfl
                 rotate_left
                 ·simp only [Act.put,List.setIfInBounds_toArray,List.set_cons_zero,List.set_cons_succ,i64_w,i32_w]
                  rfl
                 exact norm_ (by simp only [putAll,Act.put,List.setIfInBounds_toArray,List.set_cons_zero,List.set_cons_succ]) (hCont (.slice Ao37 y262.length co37,v266,v269) _ ⟨hHeld,(by (with_reducible repeat (first|apply Kd.R_alloc|apply Kd.R_drewN|apply Kd.R_drew));exact Kd.R_mono HO264.out (fun _ hk=>hk.2)),(by (with_reducible repeat (first|apply Kd.R_alloc|apply Kd.R_drewN|apply Kd.R_drew));exact HO267.out),(by (with_reducible repeat (first|apply Kd.R_alloc|apply Kd.R_drewN|apply Kd.R_drew));exact Kd.R_mono HO270.out (fun _ hk=>hk.2)),(by (with_reducible repeat (first|apply Kd.R_alloc|apply Kd.R_drewN|apply Kd.R_drew));exact Kd.R_mono HO_258001.out (fun _ hk=>hk.2)),(by (with_reducible repeat first|apply blk_drewN|apply blk_drew|apply blk_alloc);exact BK253.out),(by (with_reducible repeat first|apply blk_drewN|apply blk_drew|apply blk_alloc);exact BK257.out),(by (with_reducible repeat first|apply blk_drewN|apply blk_drew|apply blk_alloc);exact BK259.out),(by repeat (first|(with_reducible first|exact HB.out|apply below_alloc|apply pw_below_drewN|apply below_drew1|refine below_set ?_ GE253.out|refine below_set ?_ GE257.out|refine below_set ?_ GE259.out)|exact HB.out))⟩)
               ·skip
                refine Kd.R_lit_step Kd.string _ 9 ?hg (N:=42) ?hd (xs:=([(⟨#[]⟩ : ByteArray)] : List ByteArray)) (inner:=[.string (⟨#[]⟩ : ByteArray)]) (ok:=fun _=>True) (okp:=fun _=>True) ?hr ?hp (fun _ hk=>hk) trivial (Below.refl _ _) (Nat.le_refl _) (by simp) ?_;(case hd=>rfl);(case hg=>rfl);(case hr=>first|(go_simp;done)|(go_simp;rfl));(case hp=>exact (Reps.one (show Kd.M Kd.string _ _ _ (⟨#[]⟩ : ByteArray) [.string (⟨#[]⟩ : ByteArray)] from rfl) (Reps.none _ _)))
                intro v269 w32 ho33 hb hg_ hnew_
                clear hg_ hnew_
                (first|rw [← Ny268.out] at ho33|(simp only [Int.reduceToNat] at ho33;rw [← Ny268.out] at ho33))
                have n0_:=Aside0.mk (Kd.R_below (by (with_reducible repeat (first|apply Kd.R_alloc|apply Kd.R_drewN|apply Kd.R_drew));exact HO_258000.out) hb)
                have n1_:=Aside0.mk (Kd.R_elder' (by (with_reducible repeat (first|apply Kd.R_alloc|apply Kd.R_drewN|apply Kd.R_drew));exact HO_258001.out) (Kd.R_base ho33) hb)
                have n2_:=Aside0.mk (Kd.R_lower (Kd.R_new' ho33 (Kd.R_lt (by (with_reducible repeat (first|apply Kd.R_alloc|apply Kd.R_drewN|apply Kd.R_drew));exact HO_258001.out))) (below_size (by repeat (first|(with_reducible first|exact HB.out|apply below_alloc|apply pw_below_drewN|apply below_drew1|refine below_set ?_ GE253.out|refine below_set ?_ GE257.out|refine below_set ?_ GE259.out)|exact HB.out))))
                have n3_:=Aside0.mk (blk_below (g:=gb253) (o:=.cells #[.slice none 0 0,.slice none 0 0] 86 (0,0)) (by (with_reducible repeat first|apply blk_drewN|apply blk_drew|apply blk_alloc);exact BK253.out) hb)
                have n4_:=Aside0.mk (blk_below (g:=gb257) (o:=.cells #[.slice Ao29 x258000_2.length co29,.slice Ao30 x258001_2.length co30] 86 (0,0)) (by (with_reducible repeat first|apply blk_drewN|apply blk_drew|apply blk_alloc);exact BK257.out) hb)
                have n5_:=Aside0.mk (blk_below (g:=gb259) (o:=.cells #[.int .i64 ((rd_T74 l0 x10_1).f0),.int .i64 ((rd_T74 l0 x10_1).f1),.string ((rd_T74 l0 x10_1).f2)] 74 (0,0)) (by (with_reducible repeat first|apply blk_drewN|apply blk_drew|apply blk_alloc);exact BK259.out) hb)
                have n6_:=Aside0.mk (below_step (by repeat (first|(with_reducible first|exact HB.out|apply below_alloc|apply pw_below_drewN|apply below_drew1|refine below_set ?_ GE253.out|refine below_set ?_ GE257.out|refine below_set ?_ GE259.out)|exact HB.out)) hb)
                clear HO_258000
                clear HO_258001
                clear BK253
                clear BK257
                clear BK259
                clear HB
                have HO_258000:=n0_
                have HO_258001:=n1_
                have HO270:=n2_
                have BK253:=n3_
                have BK257:=n4_
                have BK259:=n5_
                have HB:=n6_
                clear n0_ n1_ n2_ n3_ n4_ n5_ n6_
                clear hb ho33
                refine hK.out _ _ ⟨(blk_cell BK257.out 0).trans rfl,(blk_cell BK257.out 1).trans rfl,(blk_cell BK259.out 0).trans rfl,(blk_cell BK259.out 1).trans rfl,(blk_cell BK259.out 2).trans rfl⟩ (fun hHeld=>?_)
                clear hK K
                refine norm_ (a':=?_) ?_ ?_
                rotate_left
                ·show Act.put _ (some 42) _ = _
                 simp only [Act.put,List.setIfInBounds_toArray,List.set_cons_zero,List.set_cons_succ,i64_w,i32_w]
                 rfl
                refine one_ (i:=5) (N:=some 38) #[true,true,true,true,true,true,false,true,true,true,false,false,false,false,false] rfl rfl (one_of HT_.out (by kernel_rfl)) (by decide) (fun K hK=>?_)
                refine Kd.R_lit_step Kd.bool _ 4 ?hg (N:=38) ?hd (xs:=([decide (((rd_T74 l0 x10_1).f0) > 0)] : List Bool)) (inner:=[.bool (decide (((rd_T74 l0 x10_1).f0) > 0))]) (ok:=fun _=>True) (okp:=fun _=>True) ?hr ?hp (fun _ hk=>hk) trivial (Below.refl _ _) (Nat.le_refl _) (by simp) ?_;(case hd=>rfl);(case hg=>rfl);(case hr=>first|(go_simp;done)|(go_simp;rfl));(case hp=>exact (Reps.one (show Kd.M Kd.bool _ _ _ (decide (((rd_T74 l0 x10_1).f0) > 0)) [.bool (decide (((rd_T74 l0 x10_1).f0) > 0))] from rfl) (Reps.none _ _)))
                intro v263 w34 ho35 hb hg_ hnew_
                clear hg_ hnew_
                (first|rw [← Ny262.out] at ho35|(simp only [Int.reduceToNat] at ho35;rw [← Ny262.out] at ho35))
                have n0_:=Aside0.mk (Kd.R_elder' (by (with_reducible repeat (first|apply Kd.R_alloc|apply Kd.R_drewN|apply Kd.R_drew));exact HO_258000.out) (Kd.R_base ho35) hb)
                have n1_:=Aside0.mk (Kd.R_below (by (with_reducible repeat (first|apply Kd.R_alloc|apply Kd.R_drewN|apply Kd.R_drew));exact HO_258001.out) hb)
                have n2_:=Aside0.mk (Kd.R_below (by (with_reducible repeat (first|apply Kd.R_alloc|apply Kd.R_drewN|apply Kd.R_drew));exact HO270.out) hb)
                have n3_:=Aside0.mk (Kd.R_lower (Kd.R_new' ho35 (Kd.R_lt (by (with_reducible repeat (first|apply Kd.R_alloc|apply Kd.R_drewN|apply Kd.R_drew));exact HO_258000.out))) (below_size (by repeat (first|(with_reducible first|exact HB.out|apply below_alloc|apply pw_below_drewN|apply below_drew1|refine below_set ?_ GE253.out|refine below_set ?_ GE257.out|refine below_set ?_ GE259.out)|exact HB.out))))
                have n4_:=Aside0.mk (blk_below (g:=gb253) (o:=.cells #[.slice none 0 0,.slice none 0 0] 86 (0,0)) (by (with_reducible repeat first|apply blk_drewN|apply blk_drew|apply blk_alloc);exact BK253.out) hb)
                have n5_:=Aside0.mk (blk_below (g:=gb257) (o:=.cells #[.slice Ao29 x258000_2.length co29,.slice Ao30 x258001_2.length co30] 86 (0,0)) (by (with_reducible repeat first|apply blk_drewN|apply blk_drew|apply blk_alloc);exact BK257.out) hb)
                have n6_:=Aside0.mk (blk_below (g:=gb259) (o:=.cells #[.int .i64 ((rd_T74 l0 x10_1).f0),.int .i64 ((rd_T74 l0 x10_1).f1),.string ((rd_T74 l0 x10_1).f2)] 74 (0,0)) (by (with_reducible repeat first|apply blk_drewN|apply blk_drew|apply blk_alloc);exact BK259.out) hb)
                have n7_:=Aside0.mk (below_step (by repeat (first|(with_reducible first|exact HB.out|apply below_alloc|apply pw_below_drewN|apply below_drew1|refine below_set ?_ GE253.out|refine below_set ?_ GE257.out|refine below_set ?_ GE259.out)|exact HB.out)) hb)
                clear HO_258000
                clear HO_258001
                clear HO270
                clear BK253
                clear BK257
                clear BK259
                clear HB
                have HO_258000:=n0_
                have HO_258001:=n1_
                have HO270:=n2_
                have HO264:=n3_
                have BK253:=n4_
                have BK257:=n5_
                have BK259:=n6_
                have HB:=n7_
                clear n0_ n1_ n2_ n3_ n4_ n5_ n6_ n7_
                clear hb ho35
                obtain ⟨Ao37,co37,eo37⟩:=Kd.R_slice HO264.out
                (first|subst eo37|(injection eo37 with f1_ f2_ f3_;have f4_:=f1_.symm;have f5_:=f3_.symm;clear f1_ f2_ f3_;subst f4_;subst f5_))
                refine hK.out _ _ ⟨(blk_cell BK257.out 0).trans rfl,(blk_cell BK257.out 1).trans rfl,(blk_cell BK259.out 0).trans rfl,(blk_cell BK259.out 1).trans rfl,(blk_cell BK259.out 2).trans rfl⟩ (fun hHeld=>?_)
                clear hK K
                refine norm_ (a':=?_) ?_ ?_
                rotate_left
                ·show Act.put _ (some 38) _ = _
                 simp only [Act.put,List.setIfInBounds_toArray,List.set_cons_zero,List.set_cons_succ,i64_w,i32_w]
                 rfl
                refine one_ (i:=6) (N:=some 39) #[true,true,true,true,true,true,true,true,true,true,false,false,false,false,false] rfl rfl (one_of HT_.out (by kernel_rfl)) (by decide) (fun K hK=>?_)
                refine Kd.R_append_rows_step Kd.bool (w0:=w) w.heap.size (by rfl) (.tmp 34) (.tmp 38) 83 4 (.bool false) 1 rfl Try.underlying83 info4 rfl (by decide) (by omega) (.slice Ao29 x258000_2.length co29) x258000_2 y262 _ _ _ (fun k_=>some k_ ≠ (.slice Ao37 y262.length co37 : Value).ownBlock) (fun _=>False) rfl rfl ?aO ?aR (fun _ _ h=>h) (fun _ h=>h.elim) ?aF ?aB ?aS ?aL ?_
                (case aR=>repeat (first|exact (Kd.R_reads' HO264.out).2.2|(with_reducible first|apply Kd.C_alloc|apply Kd.C_drewN|apply Kd.C_drew)))
                (case aB=>exact (by repeat (first|(with_reducible first|exact HB.out|apply below_alloc|apply pw_below_drewN|apply below_drew1|refine below_set ?_ GE253.out|refine below_set ?_ GE257.out|refine below_set ?_ GE259.out)|exact HB.out)))
                (case aF=>exact (fun k_ hk=>Kd.fresh' (Kd.R_lt (by (with_reducible repeat (first|apply Kd.R_alloc|apply Kd.R_drewN|apply Kd.R_drew));exact HO264.out)) k_ hk))
                (case aO=>exact (by (with_reducible repeat (first|apply Kd.R_alloc|apply Kd.R_drewN|apply Kd.R_drew));exact Kd.R_mono HO_258000.out (fun _ hk=>hk.2)))
                (case aS=>exact (below_size (by repeat (first|(with_reducible first|exact HB.out|apply below_alloc|apply pw_below_drewN|apply below_drew1|refine below_set ?_ GE253.out|refine below_set ?_ GE257.out|refine below_set ?_ GE259.out)|exact HB.out))))
                (case aL=>have:=LMc27.out;omega)
                intro v266 w36 ho hb hg hat
                rw [← Ny265.out] at ho
                have n0_:=Aside0.mk (Kd.R_over' (by (with_reducible repeat (first|apply Kd.R_alloc|apply Kd.R_drewN|apply Kd.R_drew));exact HO_258001.out) (Kd.R_typed (by (with_reducible repeat (first|apply Kd.R_alloc|apply Kd.R_drewN|apply Kd.R_drew));exact HO_258000.out)) (by decide) hg)
                have n1_:=Aside0.mk (blk_grown (g:=gb253) (o:=.cells #[.slice none 0 0,.slice none 0 0] 86 (0,0)) (by (with_reducible repeat first|apply blk_drewN|apply blk_drew|apply blk_alloc);exact BK253.out) hg (Kd.R_ne HO_258000.out BK253.out (by decide)))
                have n2_:=Aside0.mk (blk_grown (g:=gb257) (o:=.cells #[.slice Ao29 x258000_2.length co29,.slice Ao30 x258001_2.length co30] 86 (0,0)) (by (with_reducible repeat first|apply blk_drewN|apply blk_drew|apply blk_alloc);exact BK257.out) hg (Kd.R_ne HO_258000.out BK257.out (by decide)))
                have n3_:=Aside0.mk (blk_grown (g:=gb259) (o:=.cells #[.int .i64 ((rd_T74 l0 x10_1).f0),.int .i64 ((rd_T74 l0 x10_1).f1),.string ((rd_T74 l0 x10_1).f2)] 74 (0,0)) (by (with_reducible repeat first|apply blk_drewN|apply blk_drew|apply blk_alloc);exact BK259.out) hg (Kd.R_ne HO_258000.out BK259.out (by decide)))
                have n4_:=Aside0.mk (Kd.R_over' (by (with_reducible repeat (first|apply Kd.R_alloc|apply Kd.R_drewN|apply Kd.R_drew));exact HO270.out) (Kd.R_typed (by (with_reducible repeat (first|apply Kd.R_alloc|apply Kd.R_drewN|apply Kd.R_drew));exact HO_258000.out)) (by decide) hg)
                have n5_:=Aside0.mk (Kd.R_after (ok:=(fun _=>True)) (by (with_reducible repeat (first|apply Kd.R_alloc|apply Kd.R_drewN|apply Kd.R_drew));exact HO264.out) hg hat)
                have n6_:=Aside0.mk (hb)
                have n7_:=Aside0.mk (ho)
                clear HO_258001
                clear BK253
                clear BK257
                clear BK259
                clear HO270
                clear HO264
                clear HB
                clear HO_258000
                have HO_258001:=n0_
                have BK253:=n1_
                have BK257:=n2_
                have BK259:=n3_
                have HO270:=n4_
                have HO264:=n5_
                have HB:=n6_
                have HO267:=n7_
                clear n0_ n1_ n2_ n3_ n4_ n5_ n6_ n7_
                clear ho hb hg hat
                refine hK.out _ _ ⟨(blk_cell BK257.out 0).trans rfl,(blk_cell BK257.out 1).trans rfl,(blk_cell BK259.out 0).trans rfl,(blk_cell BK259.out 1).trans rfl,(blk_cell BK259.out 2).trans rfl⟩ (fun hHeld=>?_)
                clear hK K
                refine norm_ (a':=?_) ?_ ?_
                rotate_left
                ·show Act.put _ (some 39) _ = _
                 simp only [Act.put,List.setIfInBounds_toArray,List.set_cons_zero,List.set_cons_succ,i64_w,i32_w]
                 rfl
                refine pure_ (i:=11) (N:=some 44) (v:=?_) (a':=?_) #[true,true,true,true,true,true,true,true,true,true,false,true,false,false,false] rfl rfl (any_of HT_.out (by kernel_rfl)) (fun _ _ _ h=>h) (Or.inl ⟨by rfl,?_⟩) ?_ ?_
                rotate_left
                ·intro w'
                 go_simp
                 with_reducible rfl
                rotate_left
                ·simp only [Act.put,List.setIfInBounds_toArray,List.set_cons_zero,List.set_cons_succ,i64_w,i32_w]
                 rfl
                exact norm_ (by simp only [putAll,Act.put,List.setIfInBounds_toArray,List.set_cons_zero,List.set_cons_succ]) (hCont (.slice Ao37 y262.length co37,v266,v269) _ ⟨hHeld,(by (with_reducible repeat (first|apply Kd.R_alloc|apply Kd.R_drewN|apply Kd.R_drew));exact Kd.R_mono HO264.out (fun _ hk=>hk.2)),(by (with_reducible repeat (first|apply Kd.R_alloc|apply Kd.R_drewN|apply Kd.R_drew));exact HO267.out),(by (with_reducible repeat (first|apply Kd.R_alloc|apply Kd.R_drewN|apply Kd.R_drew));exact Kd.R_mono HO270.out (fun _ hk=>hk.2)),(by (with_reducible repeat (first|apply Kd.R_alloc|apply Kd.R_drewN|apply Kd.R_drew));exact Kd.R_mono HO_258001.out (fun _ hk=>hk.2)),(by (with_reducible repeat first|apply blk_drewN|apply blk_drew|apply blk_alloc);exact BK253.out),(by (with_reducible repeat first|apply blk_drewN|apply blk_drew|apply blk_alloc);exact BK257.out),(by (with_reducible repeat first|apply blk_drewN|apply blk_drew|apply blk_alloc);exact BK259.out),(by repeat (first|(with_reducible first|exact HB.out|apply below_alloc|apply pw_below_drewN|apply below_drew1|refine below_set ?_ GE253.out|refine below_set ?_ GE257.out|refine below_set ?_ GE259.out)|exact HB.out))⟩)
              rintro ⟨v263,v266,v269⟩ w38 ⟨hS_,h0_,h1_,h2_,h3_,h4_,h5_,h6_,h7_⟩
              have n0_ : Aside0 (Kd.R Kd.bool 4 w38 w.heap.size (fun k_=>some k_ ≠ (v266 : Value).ownBlock) v263 y262):=⟨h0_⟩
              have n1_ : Aside0 (Kd.R Kd.bool 4 w38 w.heap.size (fun k_=>some k_ ≠ (v263 : Value).ownBlock) v266 y265):=⟨h1_⟩
              have n2_ : Aside0 (Kd.R Kd.string 9 w38 w.heap.size (fun k_=>some k_ ≠ (.slice Ao30 x258001_2.length co30 : Value).ownBlock) v269 y268):=⟨h2_⟩
              have n3_ : Aside0 (Kd.R Kd.string 9 w38 w.heap.size (fun k_=>some k_ ≠ (v269 : Value).ownBlock) (.slice Ao30 x258001_2.length co30) x258001_2):=⟨h3_⟩
              have n4_ : Aside0 (w38.heap[gb253]? = some (.cells #[.slice none 0 0,.slice none 0 0] 86 (0,0))):=⟨h4_⟩
              have n5_ : Aside0 (w38.heap[gb257]? = some (.cells #[.slice Ao29 x258000_2.length co29,.slice Ao30 x258001_2.length co30] 86 (0,0))):=⟨h5_⟩
              have n6_ : Aside0 (w38.heap[gb259]? = some (.cells #[.int .i64 ((rd_T74 l0 x10_1).f0),.int .i64 ((rd_T74 l0 x10_1).f1),.string ((rd_T74 l0 x10_1).f2)] 74 (0,0))):=⟨h6_⟩
              have n7_ : Aside0 (Below w.heap.size w w38):=⟨h7_⟩
              clear HO_258000
              clear HO_258001
              clear BK253
              clear BK257
              clear BK259
              clear HB
              clear h0_ h1_ h2_ h3_ h4_ h5_ h6_ h7_
              have HO264:=n0_
              have HO267:=n1_
              have HO270:=n2_
              have HO_258001:=n3_
              have BK253:=n4_
              have BK257:=n5_
              have BK259:=n6_
              have HB:=n7_
              clear n0_ n1_ n2_ n3_ n4_ n5_ n6_ n7_
              have hHeld : w38.cell? ⟨gb257,0,none⟩ = some (.slice Ao29 x258000_2.length co29)∧w38.cell? ⟨gb257,1,none⟩ = some (.slice Ao30 x258001_2.length co30)∧w38.cell? ⟨gb259,0,none⟩ = some (.int .i64 ((rd_T74 l0 x10_1).f0))∧w38.cell? ⟨gb259,1,none⟩ = some (.int .i64 ((rd_T74 l0 x10_1).f1))∧w38.cell? ⟨gb259,2,none⟩ = some (.string ((rd_T74 l0 x10_1).f2)):=hS_
              obtain ⟨Ao40,co40,eo40⟩:=Kd.R_slice HO270.out
              (first|subst eo40|(injection eo40 with f1_ f2_ f3_;have f4_:=f1_.symm;have f5_:=f3_.symm;clear f1_ f2_ f3_;subst f4_;subst f5_))
              refine norm_ (a':=?_) ?_ ?_
              rotate_left
              ·simp only [putAll,Act.put,List.setIfInBounds_toArray,List.set_cons_zero,List.set_cons_succ]
               rfl
              refine one_ (i:=10) (N:=some 43) #[true,true,true,true,true,true,true,true,true,true,true,true,false,false,false] rfl rfl (one_of HT_.out (by kernel_rfl)) (by decide) (fun K hK=>?_)
              refine Kd.R_append_rows_step Kd.string (w0:=w) w.heap.size (by rfl) (.tmp 41) (.tmp 42) 84 9 (.string ⟨#[]⟩) 16 rfl Try.underlying84 info9 rfl (by decide) (by omega) (.slice Ao30 x258001_2.length co30) x258001_2 y268 _ _ _ (fun k_=>some k_ ≠ (.slice Ao40 y268.length co40 : Value).ownBlock) (fun _=>False) rfl rfl ?aO ?aR (fun _ _ h=>h) (fun _ h=>h.elim) ?aF ?aB ?aS ?aL ?_
              (case aR=>repeat (first|exact (Kd.R_reads' HO270.out).2.2|(with_reducible first|apply Kd.C_alloc|apply Kd.C_drewN|apply Kd.C_drew)))
              (case aB=>exact (by repeat (first|(with_reducible first|exact HB.out|apply below_alloc|apply pw_below_drewN|apply below_drew1|refine below_set ?_ GE253.out|refine below_set ?_ GE257.out|refine below_set ?_ GE259.out)|exact HB.out)))
              (case aF=>exact (fun k_ hk=>Kd.fresh' (Kd.R_lt (by (with_reducible repeat (first|apply Kd.R_alloc|apply Kd.R_drewN|apply Kd.R_drew));exact HO270.out)) k_ hk))
              (case aO=>exact (by (with_reducible repeat (first|apply Kd.R_alloc|apply Kd.R_drewN|apply Kd.R_drew));exact HO_258001.out))
              (case aS=>exact (below_size (by repeat (first|(with_reducible first|exact HB.out|apply below_alloc|apply pw_below_drewN|apply below_drew1|refine below_set ?_ GE253.out|refine below_set ?_ GE257.out|refine below_set ?_ GE259.out)|exact HB.out))))
              (case aL=>have:=LMc28.out;omega)
              intro v272 w39 ho hb hg hat
              rw [← Ny271.out] at ho
              have n0_:=Aside0.mk (blk_grown (g:=gb253) (o:=.cells #[.slice none 0 0,.slice none 0 0] 86 (0,0)) (by (with_reducible repeat first|apply blk_drewN|apply blk_drew|apply blk_alloc);exact BK253.out) hg (Kd.R_ne HO_258001.out BK253.out (by decide)))
              have n1_:=Aside0.mk (blk_grown (g:=gb257) (o:=.cells #[.slice Ao29 x258000_2.length co29,.slice Ao30 x258001_2.length co30] 86 (0,0)) (by (with_reducible repeat first|apply blk_drewN|apply blk_drew|apply blk_alloc);exact BK257.out) hg (Kd.R_ne HO_258001.out BK257.out (by decide)))
              have n2_:=Aside0.mk (blk_grown (g:=gb259) (o:=.cells #[.int .i64 ((rd_T74 l0 x10_1).f0),.int .i64 ((rd_T74 l0 x10_1).f1),.string ((rd_T74 l0 x10_1).f2)] 74 (0,0)) (by (with_reducible repeat first|apply blk_drewN|apply blk_drew|apply blk_alloc);exact BK259.out) hg (Kd.R_ne HO_258001.out BK259.out (by decide)))
              have n3_:=Aside0.mk (Kd.R_over' (by (with_reducible repeat (first|apply Kd.R_alloc|apply Kd.R_drewN|apply Kd.R_drew));exact HO264.out) (Kd.R_typed (by (with_reducible repeat (first|apply Kd.R_alloc|apply Kd.R_drewN|apply Kd.R_drew));exact HO_258001.out)) (by decide) hg)
              have n4_:=Aside0.mk (Kd.R_over' (by (with_reducible repeat (first|apply Kd.R_alloc|apply Kd.R_drewN|apply Kd.R_drew));exact HO267.out) (Kd.R_typed (by (with_reducible repeat (first|apply Kd.R_alloc|apply Kd.R_drewN|apply Kd.R_drew));exact HO_258001.out)) (by decide) hg)
              have n5_:=Aside0.mk (Kd.R_after (ok:=(fun _=>True)) (by (with_reducible repeat (first|apply Kd.R_alloc|apply Kd.R_drewN|apply Kd.R_drew));exact Kd.R_mono HO270.out (fun _ hk=>⟨trivial,hk⟩)) hg hat)
              have n6_:=Aside0.mk (hb)
              have n7_:=Aside0.mk (ho)
              clear BK253
              clear BK257
              clear BK259
              clear HO264
              clear HO267
              clear HO270
              clear HB
              clear HO_258001
              have BK253:=n0_
              have BK257:=n1_
              have BK259:=n2_
              have HO264:=n3_
              have HO267:=n4_
              have HO270:=n5_
              have HB:=n6_
              have HO273:=n7_
              clear n0_ n1_ n2_ n3_ n4_ n5_ n6_ n7_
              clear ho hb hg hat
              obtain ⟨Ao41,co41,eo41⟩:=Kd.R_slice HO267.out
              (first|subst eo41|(injection eo41 with f1_ f2_ f3_;have f4_:=f1_.symm;have f5_:=f3_.symm;clear f1_ f2_ f3_;subst f4_;subst f5_))
              obtain ⟨Ao43,co43,eo43⟩:=Kd.R_slice HO273.out
              (first|subst eo43|(injection eo43 with f1_ f2_ f3_;have f4_:=f1_.symm;have f5_:=f3_.symm;clear f1_ f2_ f3_;subst f4_;subst f5_))
              refine hK.out _ _ ⟨(blk_cell BK257.out 0).trans rfl,(blk_cell BK257.out 1).trans rfl,(blk_cell BK259.out 0).trans rfl,(blk_cell BK259.out 1).trans rfl,(blk_cell BK259.out 2).trans rfl⟩ (fun hHeld=>?_)
              clear hK K
              refine norm_ (a':=?_) ?_ ?_
              rotate_left
              ·show Act.put _ (some 43) _ = _
               simp only [Act.put,List.setIfInBounds_toArray,List.set_cons_zero,List.set_cons_succ,i64_w,i32_w]
               rfl
              refine last_ (i:=12) (N:=none) #[true,true,true,true,true,true,true,true,true,true,true,true,true,false,false] rfl rfl (one_of HT_.out (by kernel_rfl)) (by decide) (fun K hK=>?_)
              have hs42 : w39.cell? ⟨gb257,0,none⟩ = some (.slice Ao29 x258000_2.length co29):=(blk_cell BK257.out 0).trans rfl
              have hfs42:=blk_frozen BK257.out 0
              have hns42_0:=NB253_257.out
              have hns42_2:=NB259_257.out
              have hms42_0:=NB257_253.out
              have hms42_2:=NB257_259.out
              refine skip_ (w1:=?_) (by rfl) rfl ?_ ?_
              rotate_left
              ·go_simp
               rfl
              refine hK.out _ _ ?_
              clear hK K
              refine pure_ (i:=13) (N:=some 45) (v:=?_) (a':=?_) #[true,true,true,true,true,true,true,true,true,true,true,true,true,true,false] rfl rfl (any_of HT_.out (by kernel_rfl)) (fun _ _ _ h=>h) (Or.inl ⟨by rfl,?_⟩) ?_ ?_
              rotate_left
              ·intro w'
               go_simp
               with_reducible rfl
              rotate_left
              ·simp only [Act.put,List.setIfInBounds_toArray,List.set_cons_zero,List.set_cons_succ,i64_w,i32_w]
               rfl
              refine last_ (i:=14) (N:=none) #[true,true,true,true,true,true,true,true,true,true,true,true,true,true,true] rfl rfl (one_of HT_.out (by kernel_rfl)) (by decide) (fun K hK=>?_)
              have hs44 : w39.cell? ⟨gb257,1,none⟩ = some (.slice Ao30 x258001_2.length co30):=(blk_cell BK257.out 1).trans rfl
              have hfs44:=blk_frozen BK257.out 1
              have hns44_0:=NB253_257.out
              have hns44_2:=NB259_257.out
              have hms44_0:=NB257_253.out
              have hms44_2:=NB257_259.out
              refine skip_ (w1:=?_) (by rfl) rfl ?_ ?_
              rotate_left
              ·go_simp
               rfl
              refine hK.out _ _ ?_
              clear hK K
              refine done_ (done_of HT_.out (by kernel_rfl)) ?_
              try go_wp2
              go_roundg k2
              case measure=>have:=HK1.out;have:=HK2.out;omega
              case rel=>exact ⟨(wrap64 (x31_2 + 1)),(y265),(y271),(.slice Ao41 y265.length co41),(.slice Ao43 y271.length co43),(by first|rfl|(simp;done)|(simp [*];done)),H',⟨by have:=HK1.out;have:=HK2.out;omega⟩,⟨by (with_reducible repeat (first|apply Kd.R_alloc|apply Kd.R_drewN|apply Kd.R_drew));exact Kd.R_mono (Kd.R_far (p:=⟨gb257,1,none⟩) (Kd.R_far (p:=⟨gb257,0,none⟩) (Kd.R_types HO267.out BK257.out (by decide)) (fun _ hk=>hk.2) (.slice Ao41 y265.length co41)) (fun _ hk=>hk.2) (.slice Ao43 y271.length co43)) (fun _ hk=>trivial)⟩,⟨by (with_reducible repeat (first|apply Kd.R_alloc|apply Kd.R_drewN|apply Kd.R_drew));exact Kd.R_mono (Kd.R_far (p:=⟨gb257,1,none⟩) (Kd.R_far (p:=⟨gb257,0,none⟩) (Kd.R_types HO273.out BK257.out (by decide)) (fun _ hk=>hk.2) (.slice Ao41 y265.length co41)) (fun _ hk=>hk.2) (.slice Ao43 y271.length co43)) (fun _ hk=>trivial)⟩,⟨by (with_reducible repeat first|apply blk_drewN|apply blk_drew|apply blk_alloc);refine blk_far ?_ NB253_257.out _;(with_reducible repeat first|apply blk_drewN|apply blk_drew|apply blk_alloc);refine blk_far ?_ NB253_257.out _;(with_reducible repeat first|apply blk_drewN|apply blk_drew|apply blk_alloc);exact BK253.out⟩,⟨by (with_reducible repeat first|apply blk_drewN|apply blk_drew|apply blk_alloc);refine blk_put (cs:=#[.slice Ao41 y265.length co41,.slice Ao30 x258001_2.length co30]) ?_ 1 _ rfl;(with_reducible repeat first|apply blk_drewN|apply blk_drew|apply blk_alloc);refine blk_put (cs:=#[.slice Ao29 x258000_2.length co29,.slice Ao30 x258001_2.length co30]) ?_ 0 _ rfl;(with_reducible repeat first|apply blk_drewN|apply blk_drew|apply blk_alloc);exact BK257.out⟩,⟨by (with_reducible repeat first|apply blk_drewN|apply blk_drew|apply blk_alloc);refine blk_far ?_ NB259_257.out _;(with_reducible repeat first|apply blk_drewN|apply blk_drew|apply blk_alloc);refine blk_far ?_ NB259_257.out _;(with_reducible repeat first|apply blk_drewN|apply blk_drew|apply blk_alloc);exact BK259.out⟩,⟨by repeat (first|(with_reducible first|exact HB.out|apply below_alloc|apply pw_below_drewN|apply below_drew1|refine below_set ?_ GE253.out|refine below_set ?_ GE257.out|refine below_set ?_ GE259.out)|exact HB.out)⟩⟩
             ·rw [if_neg c28] at H
              exact absurd H (by simp)
            ·rw [if_neg c27] at H
             exact absurd H (by simp)
           ·rw [if_neg c26] at H
            have c26b0 : decide (x31_2 < (wrap64 (((rd_T74 l0 x10_1).f0) + ((rd_T74 l0 x10_1).f1)))) = false:=decide_eq_false c26
            clear c26
            have H':=Aside0.mk H
            clear H
            go_wp2
            go_roundg k2
            case measure=>have:=HK1.out;have:=HK2.out;omega
            case rel=>exact ⟨(wrap64 (x10_1 + 1)),(x258000_2),(x258001_2),(u258000),(u258001),(by first|rfl|(simp;done)|(simp [*];done)),H',⟨by have:=HK1.out;have:=HK2.out;omega⟩,⟨by (with_reducible repeat (first|apply Kd.R_alloc|apply Kd.R_drewN|apply Kd.R_drew));exact HO_258000.out⟩,⟨by (with_reducible repeat (first|apply Kd.R_alloc|apply Kd.R_drewN|apply Kd.R_drew));exact HO_258001.out⟩,⟨by (with_reducible repeat first|apply blk_drewN|apply blk_drew|apply blk_alloc);exact BK253.out⟩,⟨by (with_reducible repeat first|apply blk_drewN|apply blk_drew|apply blk_alloc);exact BK257.out⟩,⟨by repeat (first|(with_reducible first|exact HB.out|apply below_alloc|apply pw_below_drewN|apply below_drew1|refine below_set ?_ GE253.out|refine below_set ?_ GE257.out|refine below_set ?_ GE259.out)|exact HB.out)⟩⟩
        ·rw [if_neg c15] at H
         exact absurd H (by simp)
       ·rw [if_neg c14] at H
        exact absurd H (by simp)
      ·rw [if_neg c13] at H
       exact absurd H (by simp)
     ·rw [if_neg c11] at H
      exact absurd H (by simp)
    ·rw [if_neg c10] at H
     exact absurd H (by simp)
   ·rw [if_neg c9] at H
    have c9b0 : decide (x10_1 < (l0.length : Int)) = false:=decide_eq_false c9
    clear c9
    simp only [Option.some.injEq,Prod.mk.injEq] at H
    obtain ⟨rfl,rfl⟩:=H
    have hnb45:=NB257_253.out
    have hnc45:=NB253_257.out
    have hcz46_0 : wr.cell? ⟨gb257,0,none⟩ = some (u258000):=(blk_cell BK257.out 0).trans rfl
    have hcz46_1 : wr.cell? ⟨gb257,1,none⟩ = some (u258001):=(blk_cell BK257.out 1).trans rfl
    have hfz46_0:=blk_frozen BK257.out 0
    have hfz46_1:=blk_frozen BK257.out 1
    obtain ⟨Ao47,co47,eo47⟩:=Kd.R_slice HO_258000.out
    subst eo47
    have hcz48_0 : wr.cell? ⟨gb253,0,none⟩ = some (.slice none 0 0):=(blk_cell BK253.out 0).trans rfl
    have hcz48_1 : wr.cell? ⟨gb253,1,none⟩ = some (.slice none 0 0):=(blk_cell BK253.out 1).trans rfl
    have hfz48_0:=blk_frozen BK253.out 0
    have hfz48_1:=blk_frozen BK253.out 1
    obtain ⟨Ao49,co49,eo49⟩:=Kd.R_slice HO_258001.out
    subst eo49
    go_wp2
    refine bodyPost_ret (results_cell_row rfl _ _ gb253 86 #[.slice Ao47 x258000_1.length co47,.slice Ao49 x258001_1.length co49] (0,0) _ rfl (by (with_reducible repeat first|apply blk_drewN|apply blk_drew|apply blk_alloc);refine blk_put (cs:=#[.slice Ao47 x258000_1.length co47,.slice none 0 0]) ?_ 1 _ rfl;(with_reducible repeat first|apply blk_drewN|apply blk_drew|apply blk_alloc);refine blk_put (cs:=#[.slice none 0 0,.slice none 0 0]) ?_ 0 _ rfl;(with_reducible repeat first|apply blk_drewN|apply blk_drew|apply blk_alloc);exact BK253.out) Try.underlying86 rfl (by kernel_rfl)) rfl ?_
    exact ⟨_,_,by first|rfl|(simp [*,errW_none,errW_some] <;> rfl),by (with_reducible repeat (first|apply Kd.R_alloc|apply Kd.R_drewN|apply Kd.R_drew));exact Kd.R_mono (Kd.R_far (p:=⟨gb253,1,none⟩) (Kd.R_far (p:=⟨gb253,0,none⟩) (Kd.R_types HO_258000.out BK253.out (by decide)) (fun _ hk=>hk.2) (.slice Ao47 x258000_1.length co47)) (fun _ hk=>hk.2) (.slice Ao49 x258001_1.length co49)) (fun _ hk=>trivial),by (with_reducible repeat (first|apply Kd.R_alloc|apply Kd.R_drewN|apply Kd.R_drew));exact Kd.R_mono (Kd.R_far (p:=⟨gb253,1,none⟩) (Kd.R_far (p:=⟨gb253,0,none⟩) (Kd.R_types HO_258001.out BK253.out (by decide)) (fun _ hk=>hk.2) (.slice Ao47 x258000_1.length co47)) (fun _ hk=>hk.2) (.slice Ao49 x258001_1.length co49)) (fun _ hk=>trivial),by repeat (first|(with_reducible first|exact HB.out|apply below_alloc|apply pw_below_drewN|apply below_drew1|refine below_set ?_ GE253.out|refine below_set ?_ GE257.out)|exact HB.out)⟩

end Go.Proofs.Ytebmncdjlmnbnaa.PFnExactComposeChanges
