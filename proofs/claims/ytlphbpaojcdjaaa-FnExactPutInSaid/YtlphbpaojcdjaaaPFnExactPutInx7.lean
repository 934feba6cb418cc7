-- Written by a program of this session over the print of the kit (wip/t/patch_print.py).
import Derived.Test.YtlphbpaojcdjaaaPFnExactPutInx0
import Derived.Test.YtlphbpaojcdjaaaPFnExactPutInx4
import Derived.Test.YtlphbpaojcdjaaaPFnExactPutInx5
import Derived.Test.YtlphbpaojcdjaaaPFnExactPutInx6
namespace Go.Proofs.Ytlphbpaojcdjaaa.PFnExactPutIn
open Go.RowKit Go.Proofs.YtlphbpaojcdjaaaW.PrintWords Go.Proofs.YtlphbpaojcdjaaaW.PrintLast Go.Proofs.YtlphbpaojcdjaaaW.PrintMore
attribute [local go_sem] max2_int min2_int max_two min_two max_three min_three max_four min_four   -- for this text's walks alone
set_option linter.unusedVariables false
set_option linter.unusedSimpArgs false

/-! ### spec_l5Put: function 71 -/
def spec_l5Put.l0 : Nat → List Int → Int → Int → Option (List Int)
 | 0,_,_,_=>none
 | k + 1,x0,x1,x5=>if x5 < (x0.length : Int) then (if 0 ≤ x5 then (if (rd x0 x5) < x1 then (spec_l5Put.l0 k x0 x1 (wrap64 (x5 + 1))) else (if (rd x0 x5) = x1 then (some x0) else (if x5 ≤ (x0.length : Int) then ((some (x0.take (x5 : Int).toNat : List Int)).bind fun y224=>(if ([] : List Int).length + y224.length < 17592186044416 then ((some (([] : List Int) ++ y224 : List Int)).bind fun y228=>(if y228.length < 17592186044416 then ((some (y228 ++ [x1] : List Int)).bind fun y231=>((some (x0.drop (x5 : Int).toNat : List Int)).bind fun y234=>(if y231.length + y234.length < 17592186044416 then (some (y231 ++ y234)) else (none)))) else (none))) else (none))) else (none)))) else (none)) else (if 0 ≤ x5 then (if x5 ≤ (x0.length : Int) then ((some (x0.take (x5 : Int).toNat : List Int)).bind fun y241=>(if ([] : List Int).length + y241.length < 17592186044416 then ((some (([] : List Int) ++ y241 : List Int)).bind fun y245=>(if y245.length < 17592186044416 then ((some (y245 ++ [x1] : List Int)).bind fun y248=>((some (x0.drop (x5 : Int).toNat : List Int)).bind fun y251=>(if y248.length + y251.length < 17592186044416 then (some (y248 ++ y251)) else (none)))) else (none))) else (none))) else (none)) else (none))
def spec_l5Put.f (k : Nat) (l0 : List Int) (a1 : Int) : Option (List Int):=spec_l5Put.l0 k l0 a1 0
theorem spec_l5Put.mono_l : ∀ k,(∀ y0 y1 y2,LeO (spec_l5Put.l0 k y0 y1 y2) (spec_l5Put.l0 (k + 1) y0 y1 y2))
 | 0=>fun _ _ _ r h=>by simp [spec_l5Put.l0] at h
 | k + 1=>by
  have ih0:=spec_l5Put.mono_l k
  ·intro y0 y1 y2
   unfold spec_l5Put.l0
   repeat' first
   | (with_reducible exact ih0 _ _ _)
   | (with_reducible exact LeO.refl _)
   | (with_reducible exact LeO.none _)
   | (with_reducible refine LeO.ite ?_ ?_)
   | (with_reducible refine LeO.bind ?_ (fun _=>?_))
   | exact ih0 _ _ _
   | exact LeO.none _
   | refine LeO.ite ?_ ?_
   | refine LeO.bind ?_ (fun _=>?_)
theorem spec_l5Put.mono : ∀ a0 a1 k,LeO (spec_l5Put.f k a0 a1) (spec_l5Put.f (k + 1) a0 a1):=by
 intro a0 a1 k
 have ih0:=spec_l5Put.mono_l k
 unfold spec_l5Put.f
 repeat' first
   | (with_reducible exact ih0 _ _ _)
   | (with_reducible exact LeO.refl _)
   | (with_reducible exact LeO.none _)
   | (with_reducible refine LeO.ite ?_ ?_)
   | (with_reducible refine LeO.bind ?_ (fun _=>?_))
   | exact ih0 _ _ _
   | exact LeO.none _
   | refine LeO.ite ?_ ?_
   | refine LeO.bind ?_ (fun _=>?_)
set_option maxHeartbeats 8000000 in
set_option maxRecDepth 100000 in
theorem spec_l5Put.calls (k : Nat) (P0_ : Nat → Prop) (u9000_ : Value) (l0 : List Int) (a1 : Int) (r : List Int) (w0 w : World) (hB : Below w0.heap.size w0 w) (ho0 : Kd.R (Kd.int .i64) 3 w w0.heap.size P0_ u9000_ l0) (h : spec_l5Put.f k l0 a1 = some r) :
  Calls Try.prog 71 #[u9000_,.int .i64 a1] w fun e w'=>∃ v0_ : Value,e = .returned (v0_)∧Kd.R (Kd.int .i64) 3 w' w0.heap.size (fun k_=>(P0_ k_ ∨ w.heap.size ≤ k_)) v0_ r∧Below w0.heap.size w0 w'∧Kept w w' (fun k_=>P0_ k_):=by
 have HO0:=Aside0.mk (show Kd.R (Kd.int .i64) 3 w w0.heap.size (fun k_=>(P0_ k_ ∨ w.heap.size ≤ k_)) u9000_ l0 from Kd.R_mono ho0 (fun k_ hk=>(.inl hk)))
 have HK:=Aside0.mk (Kept.refl w (fun k_=>P0_ k_))
 have HW0:=Aside0.mk hB.size
 have HB:=Aside0.mk hB
 clear hB
 have H : (spec_l5Put.l0 k l0 a1 0) = some r:=h
 clear h
 have H':=Aside0.mk H
 clear H
 go_enter Try.func71,Try.ntmps71
 go_wp2
 go_loopg [5] k (fun kq v5 w'=>∃ (x5_1 : Int),v5 = .int .i64 x5_1∧Aside0 (spec_l5Put.l0 kq l0 a1 x5_1 = some r)∧Aside0 (kq ≤ k)∧Aside0 (Kd.R (Kd.int .i64) 3 w' w0.heap.size (fun k_=>(P0_ k_ ∨ w.heap.size ≤ k_)) u9000_ l0)∧Aside0 (Kept w w' (fun k_=>P0_ k_))∧Aside0 (Below w0.heap.size w0 w'))
 case atStart=>exact ⟨(0),(by first|rfl|(simp;done)|(simp [*];done)),H',⟨Nat.le_refl _⟩,⟨by exact HO0.out⟩,⟨by repeat (first|(with_reducible first|exact HK.out|apply Kept.alloc|apply Kept.drewN|apply Kept.drew)|exact HK.out)⟩,⟨by repeat (first|exact HB.out|apply below_alloc|apply pw_below_drewN|apply below_drew1)⟩⟩
 case round =>
  clear H'
  try clear p2
  obtain ⟨x5_1,rfl,HA,HK1,HO_0,HK,HB⟩:=hrel
  cases gk with
  | zero=>exact absurd HA.out (by simp [spec_l5Put.l0])
  | succ k1 =>
   have H:=HA.out
   clear HA
   simp only [spec_l5Put.l0] at H
   by_cases c3 : x5_1 < (l0.length : Int)
   ·rw [if_pos c3] at H
    have c3b0 : decide (x5_1 < (l0.length : Int)) = true:=decide_eq_true c3
    clear c3
    by_cases c4 : 0 ≤ x5_1
    ·rw [if_pos c4] at H
     have c4b0 : decide (0 ≤ x5_1) = true:=decide_eq_true c4
     clear c4
     by_cases c5 : (rd l0 x5_1) < a1
     ·rw [if_pos c5] at H
      have c5b0 : decide ((rd l0 x5_1) < a1) = true:=decide_eq_true c5
      clear c5
      have H':=Aside0.mk H
      clear H
      obtain ⟨Ao6,co6,eo6⟩:=Kd.R_slice HO_0.out
      subst eo6
      have p222 : 0 ≤ (x5_1 : Int):=of_decide_eq_true (by assumption)
      have q222 : x5_1 < (l0.length : Int):=of_decide_eq_true (by assumption)
      obtain ⟨ad222,e222,hx222_0⟩:=Kd.at_int (Kd.R_reads' HO_0.out).2.2 x5_1 p222 q222
      cases e222
      replace p222:=eq_true p222
      replace q222:=eq_true q222
      go_wp2
      go_roundg k1
      case measure=>have:=HK1.out;omega
      case rel=>exact ⟨(wrap64 (x5_1 + 1)),(by first|rfl|(simp;done)|(simp [*];done)),H',⟨by have:=HK1.out;omega⟩,⟨by exact HO_0.out⟩,⟨by repeat (first|(with_reducible first|exact HK.out|apply Kept.alloc|apply Kept.drewN|apply Kept.drew)|exact HK.out)⟩,⟨by repeat (first|exact HB.out|apply below_alloc|apply pw_below_drewN|apply below_drew1)⟩⟩
     ·rw [if_neg c5] at H
      have c5b0 : decide ((rd l0 x5_1) < a1) = false:=decide_eq_false c5
      clear c5
      by_cases c7 : (rd l0 x5_1) = a1
      ·rw [if_pos c7] at H
       have c7b0 : ((rd l0 x5_1) == a1) = true:=beq_iff_eq.mpr c7
       have c7b1 : ((rd l0 x5_1) != a1) = false:=bne_eq_false_iff_eq.mpr c7
       clear c7
       obtain rfl:=Option.some.inj H
       obtain ⟨Ao8,co8,eo8⟩:=Kd.R_slice HO_0.out
       subst eo8
       have p222 : 0 ≤ (x5_1 : Int):=of_decide_eq_true (by assumption)
       have q222 : x5_1 < (l0.length : Int):=of_decide_eq_true (by assumption)
       obtain ⟨ad222,e222,hx222_0⟩:=Kd.at_int (Kd.R_reads' HO_0.out).2.2 x5_1 p222 q222
       cases e222
       replace p222:=eq_true p222
       replace q222:=eq_true q222
       have p223 : 0 ≤ (x5_1 : Int):=of_decide_eq_true (by assumption)
       have q223 : x5_1 < (l0.length : Int):=of_decide_eq_true (by assumption)
       obtain ⟨ad223,e223,hx223_0⟩:=Kd.at_int (Kd.R_reads' HO_0.out).2.2 x5_1 p223 q223
       obtain rfl : ad222 = ad223:=(by injection e223)
       replace p223:=eq_true p223
       replace q223:=eq_true q223
       go_wp2
       go_ret
       exact ⟨_,by first|rfl|(simp [*,errW_none,errW_some] <;> rfl),by exact HO_0.out,by repeat (first|exact HB.out|apply below_alloc|apply pw_below_drewN|apply below_drew1),by repeat (first|(with_reducible first|exact HK.out|apply Kept.alloc|apply Kept.drewN|apply Kept.drew)|exact HK.out)⟩
      ·rw [if_neg c7] at H
       have c7b0 : ((rd l0 x5_1) == a1) = false:=beq_eq_false_iff_ne.mpr c7
       have c7b1 : ((rd l0 x5_1) != a1) = true:=bne_iff_ne.mpr c7
       have c9b0:=eq_true (of_decide_eq_true (by assumption) : 0 ≤ x5_1)
       by_cases c10 : x5_1 ≤ (l0.length : Int)
       ·rw [if_pos c10] at H
        have c10b0:=eq_true c10
        have c10b1 : decide (x5_1 ≤ (l0.length : Int)) = true:=decide_eq_true c10
        clear c10
        obtain ⟨y224,hy224⟩ : ∃ y_ : List Int,y_ = (l0.take (x5_1 : Int).toNat):=⟨_,rfl⟩
        replace H : (if ([] : List Int).length + y224.length < 17592186044416 then ((some (([] : List Int) ++ y224 : List Int)).bind fun y228=>(if y228.length < 17592186044416 then ((some (y228 ++ [a1] : List Int)).bind fun y231=>((some (l0.drop (x5_1 : Int).toNat : List Int)).bind fun y234=>(if y231.length + y234.length < 17592186044416 then (some (y231 ++ y234)) else (none)))) else (none))) else (none)) = some r:=by first|(rw [hy224];with_reducible exact H)|(have H2_:=(Option.bind_some _ _).symm.trans H;rw [hy224];with_reducible exact H2_)|(have H2_:=(Option.bind_some _ _).symm.trans H;with_reducible exact H2_)|with_reducible exact H|(rw [hy224];exact H)|exact H
        have Ny224:=Aside0.mk hy224
        clear hy224
        by_cases c11 : ([] : List Int).length + y224.length < 17592186044416
        ·rw [if_pos c11] at H
         have LMc11:=Aside0.mk c11
         clear c11
         obtain ⟨y228,hy228⟩ : ∃ y_ : List Int,y_ = (([] : List Int) ++ y224):=⟨_,rfl⟩
         replace H : (if y228.length < 17592186044416 then ((some (y228 ++ [a1] : List Int)).bind fun y231=>((some (l0.drop (x5_1 : Int).toNat : List Int)).bind fun y234=>(if y231.length + y234.length < 17592186044416 then (some (y231 ++ y234)) else (none)))) else (none)) = some r:=by first|(rw [hy228];with_reducible exact H)|(have H2_:=(Option.bind_some _ _).symm.trans H;rw [hy228];with_reducible exact H2_)|(have H2_:=(Option.bind_some _ _).symm.trans H;with_reducible exact H2_)|with_reducible exact H|(rw [hy228];exact H)|exact H
         have Ny228:=Aside0.mk hy228
         clear hy228
         by_cases c12 : y228.length < 17592186044416
         ·rw [if_pos c12] at H
          have LMc12:=Aside0.mk c12
          clear c12
          obtain ⟨y231,hy231⟩ : ∃ y_ : List Int,y_ = (y228 ++ [a1]):=⟨_,rfl⟩
          replace H : ((some (l0.drop (x5_1 : Int).toNat : List Int)).bind fun y234=>(if y231.length + y234.length < 17592186044416 then (some (y231 ++ y234)) else (none))) = some r:=by first|(rw [hy231];with_reducible exact H)|(have H2_:=(Option.bind_some _ _).symm.trans H;rw [hy231];with_reducible exact H2_)|(have H2_:=(Option.bind_some _ _).symm.trans H;with_reducible exact H2_)|with_reducible exact H|(rw [hy231];exact H)|exact H
          have Ny231:=Aside0.mk hy231
          clear hy231
          have c13b0:=eq_true (of_decide_eq_true (by assumption) : 0 ≤ x5_1)
          have c14b0:=eq_true (of_decide_eq_true (by assumption) : x5_1 ≤ (l0.length : Int))
          obtain ⟨y234,hy234⟩ : ∃ y_ : List Int,y_ = (l0.drop (x5_1 : Int).toNat):=⟨_,rfl⟩
          replace H : (if y231.length + y234.length < 17592186044416 then (some (y231 ++ y234)) else (none)) = some r:=by first|(rw [hy234];with_reducible exact H)|(have H2_:=(Option.bind_some _ _).symm.trans H;rw [hy234];with_reducible exact H2_)|(have H2_:=(Option.bind_some _ _).symm.trans H;with_reducible exact H2_)|with_reducible exact H|(rw [hy234];exact H)|exact H
          have Ny234:=Aside0.mk hy234
          clear hy234
          by_cases c15 : y231.length + y234.length < 17592186044416
          ·rw [if_pos c15] at H
           have LMc15:=Aside0.mk c15
           clear c15
           obtain ⟨y238,hy238⟩ : ∃ y_ : List Int,y_ = (y231 ++ y234):=⟨_,rfl⟩
           replace H : (some y238) = some r:=by first|(rw [hy238];with_reducible exact H)|(have H2_:=(Option.bind_some _ _).symm.trans H;rw [hy238];with_reducible exact H2_)|(have H2_:=(Option.bind_some _ _).symm.trans H;with_reducible exact H2_)|with_reducible exact H|(rw [hy238];exact H)|exact H
           have Ny238:=Aside0.mk hy238
           clear hy238
           obtain rfl:=Option.some.inj H
           obtain ⟨Ao16,co16,eo16⟩:=Kd.R_slice HO_0.out
           subst eo16
           have p222 : 0 ≤ (x5_1 : Int):=of_decide_eq_true (by assumption)
           have q222 : x5_1 < (l0.length : Int):=of_decide_eq_true (by assumption)
           obtain ⟨ad222,e222,hx222_0⟩:=Kd.at_int (Kd.R_reads' HO_0.out).2.2 x5_1 p222 q222
           cases e222
           replace p222:=eq_true p222
           replace q222:=eq_true q222
           have p223 : 0 ≤ (x5_1 : Int):=of_decide_eq_true (by assumption)
           have q223 : x5_1 < (l0.length : Int):=of_decide_eq_true (by assumption)
           obtain ⟨ad223,e223,hx223_0⟩:=Kd.at_int (Kd.R_reads' HO_0.out).2.2 x5_1 p223 q223
           obtain rfl : ad222 = ad223:=(by injection e223)
           replace p223:=eq_true p223
           replace q223:=eq_true q223
           have q17 : (x5_1 : Int) ≤ ((l0.length : Int) : Int):=of_decide_eq_true (by assumption)
           obtain ⟨i017,hi017,_,hsz17,_⟩:=info_parts info3
           have hroom17 : l0.length ≤ co16:=(Kd.R_reads' HO_0.out).2.1
           have hC17 : Kd.C (Kd.int .i64) _ (some ad222) l0.length l0:=(Kd.R_reads' HO_0.out).2.2
           have hcut17:=cut_to (P:=Try.prog) 24 3 .i64 Try.underlying24 hi017 (some ad222) l0.length co16 x5_1 (of_decide_eq_true (by assumption)) q17 hroom17
           have hr17:=Kd.C_take (m:=(x5_1 : Int).toNat) hC17 (by omega)
           have hy17 : y224.length = (x5_1 : Int).toNat:=(by rw [Ny224.out,List.length_take];omega)
           rw [← Ny224.out] at hr17
           rw [← hy17] at hcut17
           have HR227:=Aside0.mk hr17
           have HC227:=Aside0.mk (show y224.length ≤ co16 from by omega)
           clear hr17 hC17 hroom17 hi017 hsz17
           have KY17:=Aside0.mk hy17
           clear hy17
           have KL17:=Aside0.mk (show (x5_1 : Int).toNat ≤ l0.length from by omega)
           replace q17:=eq_true q17
           go_wp2_with (first|((with_reducible refine gate_builtin (b:=.append) (xs:=#[.tmp 34,.tmp 37]) rfl ?_);at_builtin;refine Kd.R_append_rows (Kd.int .i64) (w0:=w0) w0.heap.size rfl (.tmp 34) (.tmp 37) 24 3 (.int .i64 0) 8 rfl Try.underlying24 info3 rfl (by decide) (by omega) (.slice none 0 0) ([] : List Int) y224 _ _ _ (fun k_=>(P0_ k_ ∨ w.heap.size ≤ k_)∧some k_ ≠ (.slice (some ad222) l0.length co16 : Value).ownBlock) (fun _=>False) rfl rfl ?aO ?aR (fun _ _ h=>h) (fun _ h=>h.elim) ?aF ?aB ?aS ?aL ?_;(case aR=>repeat (first|exact (by repeat (first|(with_reducible exact HR227.out)|(with_reducible first|apply Kd.C_alloc|apply Kd.C_drewN|apply Kd.C_drew)|exact HR227.out))|(with_reducible first|apply Kd.C_alloc|apply Kd.C_drewN|apply Kd.C_drew)));(case aB=>exact (by repeat (first|exact HB.out|apply below_alloc|apply pw_below_drewN|apply below_drew1)));(case aF=>exact (fun k_ hk=>⟨(.inr (Nat.le_trans (by first|exact HK.out.1|exact (show Kept w _ (fun k_=>P0_ k_) from by repeat (first|(with_reducible first|exact HK.out|apply Kept.alloc|apply Kept.drewN|apply Kept.drew)|exact HK.out)).1) hk)),Kd.fresh' (Kd.R_lt (by exact HO_0.out)) k_ hk⟩));(case aO=>exact ((Kd.R_nil _ _ _ _ (fun k_=>(P0_ k_ ∨ w.heap.size ≤ k_)∧some k_ ≠ (.slice (some ad222) l0.length co16 : Value).ownBlock))));(case aS=>exact (below_size (by repeat (first|exact HB.out|apply below_alloc|apply pw_below_drewN|apply below_drew1))));(case aL=>have:=LMc11.out;omega);intro v229 w18 ho hb hg hat;rw [← Ny228.out] at ho;have n0_:=Aside0.mk (Kd.R_after (Kd.R_apart_nil (by exact HO_0.out)) hg hat);have n1_:=Aside0.mk (hb);have n2_:=Aside0.mk (Kept.of_grown (S:=(fun k_=>P0_ k_)) hg (by repeat (first|(with_reducible first|exact HK.out|apply Kept.alloc|apply Kept.drewN|apply Kept.drew)|exact HK.out)) (fun k_ e_=>by simp [Value.ownBlock] at e_));have n3_:=Aside0.mk ((show Kd.C (Kd.int .i64) w18 (some ad222) y224.length y224 from by rw [Ny224.out];exact Kd.C_take (m:=(x5_1 : Int).toNat) ((Kd.R_reads' (Kd.R_after (Kd.R_apart_nil (by exact HO_0.out)) hg hat)).2.2) KL17.out));have n4_:=Aside0.mk (ho);clear HO_0;clear HB;clear HK;clear HR227;have HO_0:=n0_;have HB:=n1_;have HK:=n2_;have HR227:=n3_;have HO230:=n4_;clear n0_ n1_ n2_ n3_ n4_;clear ho hb hg hat)|((with_reducible refine gate_builtin (b:=.append) (xs:=#[.tmp 39,.tmp 41]) rfl ?_);at_builtin;refine Kd.R_append (Kd.int .i64) (w0:=w0) w0.heap.size rfl (.tmp 39) (.tmp 41) 24 3 (.int .i64 0) 8 rfl Try.underlying24 info3 rfl (by decide) (by omega) v229 y228 a1 [.int .i64 a1] (fun k_=>(P0_ k_ ∨ w.heap.size ≤ k_)∧some k_ ≠ (.slice (some ad222) l0.length co16 : Value).ownBlock) (fun _=>False) rfl rfl ?aP (fun _ hk=>hk.elim) ?aF ?aO ?aB ?aS ?aL ?_;(case aP=>exact rfl);(case aB=>exact (by repeat (first|exact HB.out|apply below_alloc|apply pw_below_drewN|apply below_drew1)));(case aF=>exact (fun k_ hk=>⟨(.inr (Nat.le_trans (by first|exact HK.out.1|exact (show Kept w _ (fun k_=>P0_ k_) from by repeat (first|(with_reducible first|exact HK.out|apply Kept.alloc|apply Kept.drewN|apply Kept.drew)|exact HK.out)).1) hk)),Kd.fresh' (Kd.R_lt (by exact HO_0.out)) k_ hk⟩));(case aO=>exact (by exact HO230.out));(case aS=>exact (below_size (by repeat (first|exact HB.out|apply below_alloc|apply pw_below_drewN|apply below_drew1))));(case aL=>have:=LMc12.out;omega);intro v232 w19 ho hb hg hat;rw [← Ny231.out] at ho;have n0_:=Aside0.mk (Kd.R_after (ok:=(fun k_=>(P0_ k_ ∨ w.heap.size ≤ k_))) (by exact HO_0.out) hg hat);have n1_:=Aside0.mk (hb);have n2_:=Aside0.mk (Kept.of_grown (S:=(fun k_=>P0_ k_)) hg (by repeat (first|(with_reducible first|exact HK.out|apply Kept.alloc|apply Kept.drewN|apply Kept.drew)|exact HK.out)) (fun k_ e_=>(HO230.out.1 k_ e_).1));have n3_:=Aside0.mk ((show Kd.C (Kd.int .i64) w19 (some ad222) y224.length y224 from by rw [Ny224.out];exact Kd.C_take (m:=(x5_1 : Int).toNat) ((Kd.R_reads' (Kd.R_after (ok:=(fun k_=>(P0_ k_ ∨ w.heap.size ≤ k_))) (by exact HO_0.out) hg hat)).2.2) KL17.out));have n4_:=Aside0.mk (ho);clear HO_0;clear HB;clear HK;clear HR227;clear HO230;have HO_0:=n0_;have HB:=n1_;have HK:=n2_;have HR227:=n3_;have HO233:=n4_;clear n0_ n1_ n2_ n3_ n4_;clear ho hb hg hat;have q20 : (x5_1 : Int) ≤ ((l0.length : Int) : Int):=of_decide_eq_true (by assumption);obtain ⟨i020,hi020,_,hsz20,_⟩:=info_parts info3;have hroom20 : l0.length ≤ co16:=(Kd.R_reads' HO_0.out).2.1;have hC20 : Kd.C (Kd.int .i64) _ (some ad222) l0.length l0:=(Kd.R_reads' HO_0.out).2.2;have q020 : (0 : Int) ≤ (x5_1 : Int):=of_decide_eq_true (by assumption);have hcut20:=cut_from (P:=Try.prog) 24 3 .i64 Try.underlying24 hi020 1 hsz20 (some ad222) l0.length co16 x5_1 q020 q20;have hr20:=Kd.C_drop (m:=(x5_1 : Int).toNat) (c:=co16) hC20 (by omega) hroom20;obtain ⟨A20,hA20⟩ : ∃ A1,A1 = (if co16 = (x5_1 : Int).toNat then (some ad222) else ((some ad222) : Option Addr).map (·.add ((x5_1 : Int).toNat * 1))):=⟨_,rfl⟩;obtain ⟨c20,hc20⟩ : ∃ c1,c1 = co16 - (x5_1 : Int).toNat:=⟨_,rfl⟩;have hy20 : y234.length = l0.length - (x5_1 : Int).toNat:=(by rw [Ny234.out,List.length_drop] <;> omega);rw [show (l0).drop (x5_1 : Int).toNat = y234 from Ny234.out.symm] at hr20;replace hr20 : Kd.C (Kd.int .i64) _ A20 y234.length y234:=(by rw [hA20];exact hr20);rw [← hy20,← hA20,← hc20] at hcut20;have HR237:=Aside0.mk hr20;have HC237:=Aside0.mk (show y234.length ≤ c20 from by rw [hy20,hc20];exact Nat.sub_le_sub_right hroom20 _);clear hr20 hC20 hroom20 hi020 hsz20 hc20;have KY20:=Aside0.mk hy20;have KA20:=Aside0.mk hA20;clear hy20 hA20;have KL20:=Aside0.mk (show (x5_1 : Int).toNat ≤ l0.length from by omega);replace q20:=eq_true q20)|((with_reducible refine gate_builtin (b:=.append) (xs:=#[.tmp 43,.tmp 46]) rfl ?_);at_builtin;refine Kd.R_append_rows (Kd.int .i64) (w0:=w0) w0.heap.size rfl (.tmp 43) (.tmp 46) 24 3 (.int .i64 0) 8 rfl Try.underlying24 info3 rfl (by decide) (by omega) v232 y231 y234 _ _ _ (fun k_=>(P0_ k_ ∨ w.heap.size ≤ k_)∧some k_ ≠ (.slice (some ad222) l0.length co16 : Value).ownBlock) (fun _=>False) rfl rfl ?aO ?aR (fun _ _ h=>h) (fun _ h=>h.elim) ?aF ?aB ?aS ?aL ?_;(case aR=>repeat (first|exact (by repeat (first|(with_reducible exact HR237.out)|(with_reducible first|apply Kd.C_alloc|apply Kd.C_drewN|apply Kd.C_drew)|exact HR237.out))|(with_reducible first|apply Kd.C_alloc|apply Kd.C_drewN|apply Kd.C_drew)));(case aB=>exact (by repeat (first|exact HB.out|apply below_alloc|apply pw_below_drewN|apply below_drew1)));(case aF=>exact (fun k_ hk=>⟨(.inr (Nat.le_trans (by first|exact HK.out.1|exact (show Kept w _ (fun k_=>P0_ k_) from by repeat (first|(with_reducible first|exact HK.out|apply Kept.alloc|apply Kept.drewN|apply Kept.drew)|exact HK.out)).1) hk)),Kd.fresh' (Kd.R_lt (by exact HO_0.out)) k_ hk⟩));(case aO=>exact (by exact HO233.out));(case aS=>exact (below_size (by repeat (first|exact HB.out|apply below_alloc|apply pw_below_drewN|apply below_drew1))));(case aL=>have:=LMc15.out;omega);intro v239 w21 ho hb hg hat;rw [← Ny238.out] at ho;have n0_:=Aside0.mk (Kd.R_after (ok:=(fun k_=>(P0_ k_ ∨ w.heap.size ≤ k_))) (by exact HO_0.out) hg hat);have n1_:=Aside0.mk (hb);have n2_:=Aside0.mk (Kept.of_grown (S:=(fun k_=>P0_ k_)) hg (by repeat (first|(with_reducible first|exact HK.out|apply Kept.alloc|apply Kept.drewN|apply Kept.drew)|exact HK.out)) (fun k_ e_=>(HO233.out.1 k_ e_).1));have n3_:=Aside0.mk ((show Kd.C (Kd.int .i64) w21 (some ad222) y224.length y224 from by rw [Ny224.out];exact Kd.C_take (m:=(x5_1 : Int).toNat) ((Kd.R_reads' (Kd.R_after (ok:=(fun k_=>(P0_ k_ ∨ w.heap.size ≤ k_))) (by exact HO_0.out) hg hat)).2.2) KL17.out));have n4_:=Aside0.mk ((show Kd.C (Kd.int .i64) w21 A20 y234.length y234 from by rw [Ny234.out,KA20.out];exact Kd.C_drop (m:=(x5_1 : Int).toNat) (c:=co16) ((Kd.R_reads' (Kd.R_after (ok:=(fun k_=>(P0_ k_ ∨ w.heap.size ≤ k_))) (by exact HO_0.out) hg hat)).2.2) KL20.out ((Kd.R_reads' (Kd.R_after (ok:=(fun k_=>(P0_ k_ ∨ w.heap.size ≤ k_))) (by exact HO_0.out) hg hat)).2.1)));have n5_:=Aside0.mk (ho);clear HO_0;clear HB;clear HK;clear HR227;clear HR237;clear HO233;have HO_0:=n0_;have HB:=n1_;have HK:=n2_;have HR227:=n3_;have HR237:=n4_;have HO240:=n5_;clear n0_ n1_ n2_ n3_ n4_ n5_;clear ho hb hg hat))
           go_ret
           exact ⟨_,by first|rfl|(simp [*,errW_none,errW_some] <;> rfl),by exact Kd.R_mono HO240.out (fun _ hk=>hk.1),by repeat (first|exact HB.out|apply below_alloc|apply pw_below_drewN|apply below_drew1),by repeat (first|(with_reducible first|exact HK.out|apply Kept.alloc|apply Kept.drewN|apply Kept.drew)|exact HK.out)⟩
          ·rw [if_neg c15] at H
           exact absurd H (by simp)
         ·rw [if_neg c12] at H
          exact absurd H (by simp)
        ·rw [if_neg c11] at H
         exact absurd H (by simp)
       ·rw [if_neg c10] at H
        exact absurd H (by simp)
    ·rw [if_neg c4] at H
     exact absurd H (by simp)
   ·rw [if_neg c3] at H
    have c3b0 : decide (x5_1 < (l0.length : Int)) = false:=decide_eq_false c3
    clear c3
    by_cases c22 : 0 ≤ x5_1
    ·rw [if_pos c22] at H
     have c22b0:=eq_true c22
     have c22b1 : decide (0 ≤ x5_1) = true:=decide_eq_true c22
     clear c22
     by_cases c23 : x5_1 ≤ (l0.length : Int)
     ·rw [if_pos c23] at H
      have c23b0:=eq_true c23
      have c23b1 : decide (x5_1 ≤ (l0.length : Int)) = true:=decide_eq_true c23
      clear c23
      obtain ⟨y241,hy241⟩ : ∃ y_ : List Int,y_ = (l0.take (x5_1 : Int).toNat):=⟨_,rfl⟩
      replace H : (if ([] : List Int).length + y241.length < 17592186044416 then ((some (([] : List Int) ++ y241 : List Int)).bind fun y245=>(if y245.length < 17592186044416 then ((some (y245 ++ [a1] : List Int)).bind fun y248=>((some (l0.drop (x5_1 : Int).toNat : List Int)).bind fun y251=>(if y248.length + y251.length < 17592186044416 then (some (y248 ++ y251)) else (none)))) else (none))) else (none)) = some r:=by first|(rw [hy241];with_reducible exact H)|(have H2_:=(Option.bind_some _ _).symm.trans H;rw [hy241];with_reducible exact H2_)|(have H2_:=(Option.bind_some _ _).symm.trans H;with_reducible exact H2_)|with_reducible exact H|(rw [hy241];exact H)|exact H
      have Ny241:=Aside0.mk hy241
      clear hy241
      by_cases c24 : ([] : List Int).length + y241.length < 17592186044416
      ·rw [if_pos c24] at H
       have LMc24:=Aside0.mk c24
       clear c24
       obtain ⟨y245,hy245⟩ : ∃ y_ : List Int,y_ = (([] : List Int) ++ y241):=⟨_,rfl⟩
       replace H : (if y245.length < 17592186044416 then ((some (y245 ++ [a1] : List Int)).bind fun y248=>((some (l0.drop (x5_1 : Int).toNat : List Int)).bind fun y251=>(if y248.length + y251.length < 17592186044416 then (some (y248 ++ y251)) else (none)))) else (none)) = some r:=by first|(rw [hy245];with_reducible exact H)|(have H2_:=(Option.bind_some _ _).symm.trans H;rw [hy245];with_reducible exact H2_)|(have H2_:=(Option.bind_some _ _).symm.trans H;with_reducible exact H2_)|with_reducible exact H|(rw [hy245];exact H)|exact H
       have Ny245:=Aside0.mk hy245
       clear hy245
       by_cases c25 : y245.length < 17592186044416
       ·rw [if_pos c25] at H
        have LMc25:=Aside0.mk c25
        clear c25
        obtain ⟨y248,hy248⟩ : ∃ y_ : List Int,y_ = (y245 ++ [a1]):=⟨_,rfl⟩
        replace H : ((some (l0.drop (x5_1 : Int).toNat : List Int)).bind fun y251=>(if y248.length + y251.length < 17592186044416 then (some (y248 ++ y251)) else (none))) = some r:=by first|(rw [hy248];with_reducible exact H)|(have H2_:=(Option.bind_some _ _).symm.trans H;rw [hy248];with_reducible exact H2_)|(have H2_:=(Option.bind_some _ _).symm.trans H;with_reducible exact H2_)|with_reducible exact H|(rw [hy248];exact H)|exact H
        have Ny248:=Aside0.mk hy248
        clear hy248
        have c26b0:=eq_true (of_decide_eq_true (by assumption) : 0 ≤ x5_1)
        have c27b0:=eq_true (of_decide_eq_true (by assumption) : x5_1 ≤ (l0.length : Int))
        obtain ⟨y251,hy251⟩ : ∃ y_ : List Int,y_ = (l0.drop (x5_1 : Int).toNat):=⟨_,rfl⟩
        replace H : (if y248.length + y251.length < 17592186044416 then (some (y248 ++ y251)) else (none)) = some r:=by first|(rw [hy251];with_reducible exact H)|(have H2_:=(Option.bind_some _ _).symm.trans H;rw [hy251];with_reducible exact H2_)|(have H2_:=(Option.bind_some _ _).symm.trans H;with_reducible exact H2_)|with_reducible exact H|(rw [hy251];exact H)|exact H
        have Ny251:=Aside0.mk hy251
        clear hy251
        by_cases c28 : y248.length + y251.length < 17592186044416
        ·rw [if_pos c28] at H
         have LMc28:=Aside0.mk c28
         clear c28
         obtain ⟨y255,hy255⟩ : ∃ y_ : List Int,y_ = (y248 ++ y251):=⟨_,rfl⟩
         replace H : (some y255) = some r:=by first|(rw [hy255];with_reducible exact H)|(have H2_:=(Option.bind_some _ _).symm.trans H;rw [hy255];with_reducible exact H2_)|(have H2_:=(Option.bind_some _ _).symm.trans H;with_reducible exact H2_)|with_reducible exact H|(rw [hy255];exact H)|exact H
         have Ny255:=Aside0.mk hy255
         clear hy255
         obtain rfl:=Option.some.inj H
         obtain ⟨Ao29,co29,eo29⟩:=Kd.R_slice HO_0.out
         subst eo29
         have q30 : (x5_1 : Int) ≤ ((l0.length : Int) : Int):=of_decide_eq_true (by assumption)
         obtain ⟨i030,hi030,_,hsz30,_⟩:=info_parts info3
         have hroom30 : l0.length ≤ co29:=(Kd.R_reads' HO_0.out).2.1
         have hC30 : Kd.C (Kd.int .i64) _ Ao29 l0.length l0:=(Kd.R_reads' HO_0.out).2.2
         have hcut30:=cut_to (P:=Try.prog) 24 3 .i64 Try.underlying24 hi030 Ao29 l0.length co29 x5_1 (of_decide_eq_true (by assumption)) q30 hroom30
         have hr30:=Kd.C_take (m:=(x5_1 : Int).toNat) hC30 (by omega)
         have hy30 : y241.length = (x5_1 : Int).toNat:=(by rw [Ny241.out,List.length_take];omega)
         rw [← Ny241.out] at hr30
         rw [← hy30] at hcut30
         have HR244:=Aside0.mk hr30
         have HC244:=Aside0.mk (show y241.length ≤ co29 from by omega)
         clear hr30 hC30 hroom30 hi030 hsz30
         have KY30:=Aside0.mk hy30
         clear hy30
         have KL30:=Aside0.mk (show (x5_1 : Int).toNat ≤ l0.length from by omega)
         replace q30:=eq_true q30
         go_wp2_with (first|((with_reducible refine gate_builtin (b:=.append) (xs:=#[.tmp 34,.tmp 37]) rfl ?_);at_builtin;refine Kd.R_append_rows (Kd.int .i64) (w0:=w0) w0.heap.size rfl (.tmp 34) (.tmp 37) 24 3 (.int .i64 0) 8 rfl Try.underlying24 info3 rfl (by decide) (by omega) (.slice none 0 0) ([] : List Int) y241 _ _ _ (fun k_=>(P0_ k_ ∨ w.heap.size ≤ k_)∧some k_ ≠ (.slice Ao29 l0.length co29 : Value).ownBlock) (fun _=>False) rfl rfl ?aO ?aR (fun _ _ h=>h) (fun _ h=>h.elim) ?aF ?aB ?aS ?aL ?_;(case aR=>repeat (first|exact (by repeat (first|(with_reducible exact HR244.out)|(with_reducible first|apply Kd.C_alloc|apply Kd.C_drewN|apply Kd.C_drew)|exact HR244.out))|(with_reducible first|apply Kd.C_alloc|apply Kd.C_drewN|apply Kd.C_drew)));(case aB=>exact (by repeat (first|exact HB.out|apply below_alloc|apply pw_below_drewN|apply below_drew1)));(case aF=>exact (fun k_ hk=>⟨(.inr (Nat.le_trans (by first|exact HK.out.1|exact (show Kept w _ (fun k_=>P0_ k_) from by repeat (first|(with_reducible first|exact HK.out|apply Kept.alloc|apply Kept.drewN|apply Kept.drew)|exact HK.out)).1) hk)),Kd.fresh' (Kd.R_lt (by exact HO_0.out)) k_ hk⟩));(case aO=>exact ((Kd.R_nil _ _ _ _ (fun k_=>(P0_ k_ ∨ w.heap.size ≤ k_)∧some k_ ≠ (.slice Ao29 l0.length co29 : Value).ownBlock))));(case aS=>exact (below_size (by repeat (first|exact HB.out|apply below_alloc|apply pw_below_drewN|apply below_drew1))));(case aL=>have:=LMc24.out;omega);intro v246 w31 ho hb hg hat;rw [← Ny245.out] at ho;have n0_:=Aside0.mk (Kd.R_after (Kd.R_apart_nil (by exact HO_0.out)) hg hat);have n1_:=Aside0.mk (hb);have n2_:=Aside0.mk (Kept.of_grown (S:=(fun k_=>P0_ k_)) hg (by repeat (first|(with_reducible first|exact HK.out|apply Kept.alloc|apply Kept.drewN|apply Kept.drew)|exact HK.out)) (fun k_ e_=>by simp [Value.ownBlock] at e_));have n3_:=Aside0.mk ((show Kd.C (Kd.int .i64) w31 Ao29 y241.length y241 from by rw [Ny241.out];exact Kd.C_take (m:=(x5_1 : Int).toNat) ((Kd.R_reads' (Kd.R_after (Kd.R_apart_nil (by exact HO_0.out)) hg hat)).2.2) KL30.out));have n4_:=Aside0.mk (ho);clear HO_0;clear HB;clear HK;clear HR244;have HO_0:=n0_;have HB:=n1_;have HK:=n2_;have HR244:=n3_;have HO247:=n4_;clear n0_ n1_ n2_ n3_ n4_;clear ho hb hg hat)|((with_reducible refine gate_builtin (b:=.append) (xs:=#[.tmp 39,.tmp 41]) rfl ?_);at_builtin;refine Kd.R_append (Kd.int .i64) (w0:=w0) w0.heap.size rfl (.tmp 39) (.tmp 41) 24 3 (.int .i64 0) 8 rfl Try.underlying24 info3 rfl (by decide) (by omega) v246 y245 a1 [.int .i64 a1] (fun k_=>(P0_ k_ ∨ w.heap.size ≤ k_)∧some k_ ≠ (.slice Ao29 l0.length co29 : Value).ownBlock) (fun _=>False) rfl rfl ?aP (fun _ hk=>hk.elim) ?aF ?aO ?aB ?aS ?aL ?_;(case aP=>exact rfl);(case aB=>exact (by repeat (first|exact HB.out|apply below_alloc|apply pw_below_drewN|apply below_drew1)));(case aF=>exact (fun k_ hk=>⟨(.inr (Nat.le_trans (by first|exact HK.out.1|exact (show Kept w _ (fun k_=>P0_ k_) from by repeat (first|(with_reducible first|exact HK.out|apply Kept.alloc|apply Kept.drewN|apply Kept.drew)|exact HK.out)).1) hk)),Kd.fresh' (Kd.R_lt (by exact HO_0.out)) k_ hk⟩));(case aO=>exact (by exact HO247.out));(case aS=>exact (below_size (by repeat (first|exact HB.out|apply below_alloc|apply pw_below_drewN|apply below_drew1))));(case aL=>have:=LMc25.out;omega);intro v249 w32 ho hb hg hat;rw [← Ny248.out] at ho;have n0_:=Aside0.mk (Kd.R_after (ok:=(fun k_=>(P0_ k_ ∨ w.heap.size ≤ k_))) (by exact HO_0.out) hg hat);have n1_:=Aside0.mk (hb);have n2_:=Aside0.mk (Kept.of_grown (S:=(fun k_=>P0_ k_)) hg (by repeat (first|(with_reducible first|exact HK.out|apply Kept.alloc|apply Kept.drewN|apply Kept.drew)|exact HK.out)) (fun k_ e_=>(HO247.out.1 k_ e_).1));have n3_:=Aside0.mk ((show Kd.C (Kd.int .i64) w32 Ao29 y241.length y241 from by rw [Ny241.out];exact Kd.C_take (m:=(x5_1 : Int).toNat) ((Kd.R_reads' (Kd.R_after (ok:=(fun k_=>(P0_ k_ ∨ w.heap.size ≤ k_))) (by exact HO_0.out) hg hat)).2.2) KL30.out));have n4_:=Aside0.mk (ho);clear HO_0;clear HB;clear HK;clear HR244;clear HO247;have HO_0:=n0_;have HB:=n1_;have HK:=n2_;have HR244:=n3_;have HO250:=n4_;clear n0_ n1_ n2_ n3_ n4_;clear ho hb hg hat;have q33 : (x5_1 : Int) ≤ ((l0.length : Int) : Int):=of_decide_eq_true (by assumption);obtain ⟨i033,hi033,_,hsz33,_⟩:=info_parts info3;have hroom33 : l0.length ≤ co29:=(Kd.R_reads' HO_0.out).2.1;have hC33 : Kd.C (Kd.int .i64) _ Ao29 l0.length l0:=(Kd.R_reads' HO_0.out).2.2;have q033 : (0 : Int) ≤ (x5_1 : Int):=of_decide_eq_true (by assumption);have hcut33:=cut_from (P:=Try.prog) 24 3 .i64 Try.underlying24 hi033 1 hsz33 Ao29 l0.length co29 x5_1 q033 q33;have hr33:=Kd.C_drop (m:=(x5_1 : Int).toNat) (c:=co29) hC33 (by omega) hroom33;obtain ⟨A33,hA33⟩ : ∃ A1,A1 = (if co29 = (x5_1 : Int).toNat then Ao29 else (Ao29 : Option Addr).map (·.add ((x5_1 : Int).toNat * 1))):=⟨_,rfl⟩;obtain ⟨c33,hc33⟩ : ∃ c1,c1 = co29 - (x5_1 : Int).toNat:=⟨_,rfl⟩;have hy33 : y251.length = l0.length - (x5_1 : Int).toNat:=(by rw [Ny251.out,List.length_drop] <;> omega);rw [show (l0).drop (x5_1 : Int).toNat = y251 from Ny251.out.symm] at hr33;replace hr33 : Kd.C (Kd.int .i64) _ A33 y251.length y251:=(by rw [hA33];exact hr33);rw [← hy33,← hA33,← hc33] at hcut33;have HR254:=Aside0.mk hr33;have HC254:=Aside0.mk (show y251.length ≤ c33 from by rw [hy33,hc33];exact Nat.sub_le_sub_right hroom33 _);clear hr33 hC33 hroom33 hi033 hsz33 hc33;have KY33:=Aside0.mk hy33;have KA33:=Aside0.mk hA33;clear hy33 hA33;have KL33:=Aside0.mk (show (x5_1 : Int).toNat ≤ l0.length from by omega);replace q33:=eq_true q33)|((with_reducible refine gate_builtin (b:=.append) (xs:=#[.tmp 43,.tmp 46]) rfl ?_);at_builtin;refine Kd.R_append_rows (Kd.int .i64) (w0:=w0) w0.heap.size rfl (.tmp 43) (.tmp 46) 24 3 (.int .i64 0) 8 rfl Try.underlying24 info3 rfl (by decide) (by omega) v249 y248 y251 _ _ _ (fun k_=>(P0_ k_ ∨ w.heap.size ≤ k_)∧some k_ ≠ (.slice Ao29 l0.length co29 : Value).ownBlock) (fun _=>False) rfl rfl ?aO ?aR (fun _ _ h=>h) (fun _ h=>h.elim) ?aF ?aB ?aS ?aL ?_;(case aR=>repeat (first|exact (by repeat (first|(with_reducible exact HR254.out)|(with_reducible first|apply Kd.C_alloc|apply Kd.C_drewN|apply Kd.C_drew)|exact HR254.out))|(with_reducible first|apply Kd.C_alloc|apply Kd.C_drewN|apply Kd.C_drew)));(case aB=>exact (by repeat (first|exact HB.out|apply below_alloc|apply pw_below_drewN|apply below_drew1)));(case aF=>exact (fun k_ hk=>⟨(.inr (Nat.le_trans (by first|exact HK.out.1|exact (show Kept w _ (fun k_=>P0_ k_) from by repeat (first|(with_reducible first|exact HK.out|apply Kept.alloc|apply Kept.drewN|apply Kept.drew)|exact HK.out)).1) hk)),Kd.fresh' (Kd.R_lt (by exact HO_0.out)) k_ hk⟩));(case aO=>exact (by exact HO250.out));(case aS=>exact (below_size (by repeat (first|exact HB.out|apply below_alloc|apply pw_below_drewN|apply below_drew1))));(case aL=>have:=LMc28.out;omega);intro v256 w34 ho hb hg hat;rw [← Ny255.out] at ho;have n0_:=Aside0.mk (Kd.R_after (ok:=(fun k_=>(P0_ k_ ∨ w.heap.size ≤ k_))) (by exact HO_0.out) hg hat);have n1_:=Aside0.mk (hb);have n2_:=Aside0.mk (Kept.of_grown (S:=(fun k_=>P0_ k_)) hg (by repeat (first|(with_reducible first|exact HK.out|apply Kept.alloc|apply Kept.drewN|apply Kept.drew)|exact HK.out)) (fun k_ e_=>(HO250.out.1 k_ e_).1));have n3_:=Aside0.mk ((show Kd.C (Kd.int .i64) w34 Ao29 y241.length y241 from by rw [Ny241.out];exact Kd.C_take (m:=(x5_1 : Int).toNat) ((Kd.R_reads' (Kd.R_after (ok:=(fun k_=>(P0_ k_ ∨ w.heap.size ≤ k_))) (by exact HO_0.out) hg hat)).2.2) KL30.out));have n4_:=Aside0.mk ((show Kd.C (Kd.int .i64) w34 A33 y251.length y251 from by rw [Ny251.out,KA33.out];exact Kd.C_drop (m:=(x5_1 : Int).toNat) (c:=co29) ((Kd.R_reads' (Kd.R_after (ok:=(fun k_=>(P0_ k_ ∨ w.heap.size ≤ k_))) (by exact HO_0.out) hg hat)).2.2) KL33.out ((Kd.R_reads' (Kd.R_after (ok:=(fun k_=>(P0_ k_ ∨ w.heap.size ≤ k_))) (by exact HO_0.out) hg hat)).2.1)));have n5_:=Aside0.mk (ho);clear HO_0;clear HB;clear HK;clear HR244;clear HR254;clear HO250;have HO_0:=n0_;have HB:=n1_;have HK:=n2_;have HR244:=n3_;have HR254:=n4_;have HO257:=n5_;clear n0_ n1_ n2_ n3_ n4_ n5_;clear ho hb hg hat))
         go_ret
         exact ⟨_,by first|rfl|(simp [*,errW_none,errW_some] <;> rfl),by exact Kd.R_mono HO257.out (fun _ hk=>hk.1),by repeat (first|exact HB.out|apply below_alloc|apply pw_below_drewN|apply below_drew1),by repeat (first|(with_reducible first|exact HK.out|apply Kept.alloc|apply Kept.drewN|apply Kept.drew)|exact HK.out)⟩
        ·rw [if_neg c28] at H
         exact absurd H (by simp)
       ·rw [if_neg c25] at H
        exact absurd H (by simp)
      ·rw [if_neg c24] at H
       exact absurd H (by simp)
     ·rw [if_neg c23] at H
      exact absurd H (by simp)
    ·rw [if_neg c22] at H
     exact absurd H (by simp)

/-! ### spec_l5Lay: function 67 -/
def spec_l5Lay.f (k : Nat) (l0_0 : List (List Int)) (l0_1 : List Int) (l0_2 : List Int) (l0_3 : List Int) (a1 : Int) (l2 : List Int) : Option ((List (List Int)) × List Int × List Int × List Int):=if 128 ≤ 281474976710656 then (if 0 ≤ a1 then (if a1 < (l0_0.length : Int) then ((spec_l5Put.f k l0_3 a1).bind fun t263=>(some ((l0_0.set (a1 : Int).toNat (cpL (List.replicate 128 0) l2)),l0_1,l0_2,t263))) else (none)) else (none)) else (none)
theorem spec_l5Lay.mono : ∀ a0 a1 a2 a3 a4 a5 k,LeO (spec_l5Lay.f k a0 a1 a2 a3 a4 a5) (spec_l5Lay.f (k + 1) a0 a1 a2 a3 a4 a5):=by
 intro a0 a1 a2 a3 a4 a5 k
 unfold spec_l5Lay.f
 repeat' first
   | (with_reducible exact spec_l5Put.mono _ _ _)
   | (with_reducible exact LeO.refl _)
   | (with_reducible exact LeO.none _)
   | (with_reducible refine LeO.ite ?_ ?_)
   | (with_reducible refine LeO.bind ?_ (fun _=>?_))
   | exact spec_l5Put.mono _ _ _
   | exact LeO.none _
   | refine LeO.ite ?_ ?_
   | refine LeO.bind ?_ (fun _=>?_)
set_option maxHeartbeats 8000000 in
set_option maxRecDepth 100000 in
theorem spec_l5Lay.calls (k : Nat) (g0_ : Nat) (P0_0_ : Nat → Prop) (u9000_ : Value) (l0_0 : List (List Int)) (P0_1_ : Nat → Prop) (u9001_ : Value) (l0_1 : List Int) (P0_2_ : Nat → Prop) (u9002_ : Value) (l0_2 : List Int) (P0_3_ : Nat → Prop) (u9003_ : Value) (l0_3 : List Int) (a1 : Int) (A2 : Option Addr) (c2 : Nat) (l2 : List Int) (r1 : List (List Int)) (r2 : List Int) (r3 : List Int) (r4 : List Int) (w0 w : World) (hB : Below w0.heap.size w0 w) (hg0_ : w.heap[g0_]? = some (.cells #[u9000_,u9001_,u9002_,u9003_] 29 (0,0))) (hge0_ : w0.heap.size ≤ g0_) (ho0_0 : Kd.S (Kd.slice 5 (Kd.int .u8)) 23 w w0.heap.size P0_0_ u9000_ l0_0) (hp0_0_0_1 : ∀ k_,P0_0_ k_ → ¬ P0_1_ k_) (ho0_1 : Kd.R (Kd.int .u8) 5 w w0.heap.size P0_1_ u9001_ l0_1) (ho0_2 : Kd.R (Kd.int .i64) 3 w w0.heap.size P0_2_ u9002_ l0_2) (hp0_2_0_3 : ∀ k_,P0_2_ k_ → ¬ P0_3_ k_) (ho0_3 : Kd.R (Kd.int .i64) 3 w w0.heap.size P0_3_ u9003_ l0_3) (hp0_3_0_2 : ∀ k_,P0_3_ k_ → ¬ P0_2_ k_) (hr2 : ∀ W_,Kept w W_ (fun k_=>(P0_0_ k_ ∨ P0_1_ k_ ∨ P0_2_ k_ ∨ P0_3_ k_) ∨ k_ = g0_) → Kd.C (Kd.int .u8) W_ A2 l2.length l2) (hc2 : l2.length ≤ c2) (h : spec_l5Lay.f k l0_0 l0_1 l0_2 l0_3 a1 l2 = some (r1,r2,r3,r4)) :
  Calls Try.prog 67 #[.pointer (some ⟨g0_,0,none⟩),.int .i64 a1,.slice A2 l2.length c2] w fun e w'=>∃ v0_ v1_ v2_ v3_ : Value,e = .returned (.tuple #[])∧Kd.S (Kd.slice 5 (Kd.int .u8)) 23 w' w0.heap.size (fun k_=>((P0_0_ k_ ∨ P0_1_ k_ ∨ P0_2_ k_ ∨ P0_3_ k_) ∨ w.heap.size ≤ k_)∧some k_ ≠ (v1_ : Value).ownBlock) v0_ r1∧Kd.R (Kd.int .u8) 5 w' w0.heap.size (fun k_=>((P0_0_ k_ ∨ P0_1_ k_ ∨ P0_2_ k_ ∨ P0_3_ k_) ∨ w.heap.size ≤ k_)) v1_ r2∧Kd.R (Kd.int .i64) 3 w' w0.heap.size (fun k_=>((P0_0_ k_ ∨ P0_1_ k_ ∨ P0_2_ k_ ∨ P0_3_ k_) ∨ w.heap.size ≤ k_)∧some k_ ≠ (v3_ : Value).ownBlock) v2_ r3∧Kd.R (Kd.int .i64) 3 w' w0.heap.size (fun k_=>((P0_0_ k_ ∨ P0_1_ k_ ∨ P0_2_ k_ ∨ P0_3_ k_) ∨ w.heap.size ≤ k_)∧some k_ ≠ (v2_ : Value).ownBlock) v3_ r4∧w'.heap[g0_]? = some (.cells #[v0_,v1_,v2_,v3_] 29 (0,0))∧Below w0.heap.size w0 w'∧Kept w w' (fun k_=>(P0_0_ k_ ∨ P0_1_ k_ ∨ P0_2_ k_ ∨ P0_3_ k_) ∨ k_ = g0_):=by
 have HO0_0:=Aside0.mk (show Kd.S (Kd.slice 5 (Kd.int .u8)) 23 w w0.heap.size (fun k_=>((P0_0_ k_ ∨ P0_1_ k_ ∨ P0_2_ k_ ∨ P0_3_ k_) ∨ w.heap.size ≤ k_)∧some k_ ≠ (u9001_ : Value).ownBlock) u9000_ l0_0 from Kd.S_mono ho0_0 (fun k_ hk=>⟨(.inl (.inl hk)),fun e_=>hp0_0_0_1 k_ hk (ho0_1.1 k_ e_.symm)⟩))
 have HO0_1:=Aside0.mk (show Kd.R (Kd.int .u8) 5 w w0.heap.size (fun k_=>((P0_0_ k_ ∨ P0_1_ k_ ∨ P0_2_ k_ ∨ P0_3_ k_) ∨ w.heap.size ≤ k_)) u9001_ l0_1 from Kd.R_mono ho0_1 (fun k_ hk=>(.inl (.inr (.inl hk)))))
 have HO0_2:=Aside0.mk (show Kd.R (Kd.int .i64) 3 w w0.heap.size (fun k_=>((P0_0_ k_ ∨ P0_1_ k_ ∨ P0_2_ k_ ∨ P0_3_ k_) ∨ w.heap.size ≤ k_)∧some k_ ≠ (u9003_ : Value).ownBlock) u9002_ l0_2 from Kd.R_mono ho0_2 (fun k_ hk=>⟨(.inl (.inr (.inr (.inl hk)))),fun e_=>hp0_2_0_3 k_ hk (ho0_3.1 k_ e_.symm)⟩))
 have HO0_3:=Aside0.mk (show Kd.R (Kd.int .i64) 3 w w0.heap.size (fun k_=>((P0_0_ k_ ∨ P0_1_ k_ ∨ P0_2_ k_ ∨ P0_3_ k_) ∨ w.heap.size ≤ k_)∧some k_ ≠ (u9002_ : Value).ownBlock) u9003_ l0_3 from Kd.R_mono ho0_3 (fun k_ hk=>⟨(.inl (.inr (.inr (.inr hk)))),fun e_=>hp0_3_0_2 k_ hk (ho0_2.1 k_ e_.symm)⟩))
 have HR2:=Aside0.mk hr2
 have HC2:=Aside0.mk hc2
 clear hr2 hc2
 have BK0:=Aside0.mk hg0_
 clear hg0_
 have GE0:=Aside0.mk hge0_
 clear hge0_
 have HK:=Aside0.mk (Kept.refl w (fun k_=>(P0_0_ k_ ∨ P0_1_ k_ ∨ P0_2_ k_ ∨ P0_3_ k_) ∨ k_ = g0_))
 have HW0:=Aside0.mk hB.size
 have HB:=Aside0.mk hB
 clear hB
 have H : (if 128 ≤ 281474976710656 then (if 0 ≤ a1 then (if a1 < (l0_0.length : Int) then ((spec_l5Put.f k l0_3 a1).bind fun t263=>(some ((l0_0.set (a1 : Int).toNat (cpL (List.replicate 128 0) l2)),l0_1,l0_2,t263))) else (none)) else (none)) else (none)) = some (r1,r2,r3,r4):=h
 clear h
 by_cases c4 : 128 ≤ 281474976710656
 ·rw [if_pos c4] at H
  have c4b0:=eq_true c4
  have c4b1 : decide (128 ≤ 281474976710656) = true:=decide_eq_true c4
  clear c4
  obtain ⟨y258,hy258⟩ : ∃ y_ : List Int,y_ = (List.replicate 128 0):=⟨_,rfl⟩
  replace H : (if 0 ≤ a1 then (if a1 < (l0_0.length : Int) then ((spec_l5Put.f k l0_3 a1).bind fun t263=>(some ((l0_0.set (a1 : Int).toNat (cpL y258 l2)),l0_1,l0_2,t263))) else (none)) else (none)) = some (r1,r2,r3,r4):=by first|(rw [hy258];with_reducible exact H)|(have H2_:=(Option.bind_some _ _).symm.trans H;rw [hy258];with_reducible exact H2_)|(have H2_:=(Option.bind_some _ _).symm.trans H;with_reducible exact H2_)|with_reducible exact H|(rw [hy258];exact H)|exact H
  have Ny258:=Aside0.mk hy258
  clear hy258
  obtain ⟨y261,hy261⟩ : ∃ y_ : List Int,y_ = (cpL y258 l2):=⟨_,rfl⟩
  replace H : (if 0 ≤ a1 then (if a1 < (l0_0.length : Int) then ((spec_l5Put.f k l0_3 a1).bind fun t263=>(some ((l0_0.set (a1 : Int).toNat y261),l0_1,l0_2,t263))) else (none)) else (none)) = some (r1,r2,r3,r4):=by first|(rw [hy261];with_reducible exact H)|(have H2_:=(Option.bind_some _ _).symm.trans H;rw [hy261];with_reducible exact H2_)|(have H2_:=(Option.bind_some _ _).symm.trans H;with_reducible exact H2_)|with_reducible exact H|(rw [hy261];exact H)|exact H
  have Ny261:=Aside0.mk hy261
  clear hy261
  by_cases c5 : 0 ≤ a1
  ·rw [if_pos c5] at H
   have c5b0 : decide (0 ≤ a1) = true:=decide_eq_true c5
   clear c5
   by_cases c6 : a1 < (l0_0.length : Int)
   ·rw [if_pos c6] at H
    have c6b0 : decide (a1 < (l0_0.length : Int)) = true:=decide_eq_true c6
    clear c6
    obtain ⟨y262,hy262⟩ : ∃ y_ : List (List Int),y_ = (l0_0.set (a1 : Int).toNat y261):=⟨_,rfl⟩
    replace H : ((spec_l5Put.f k l0_3 a1).bind fun t263=>(some (y262,l0_1,l0_2,t263))) = some (r1,r2,r3,r4):=by first|(rw [hy262];with_reducible exact H)|(have H2_:=(Option.bind_some _ _).symm.trans H;rw [hy262];with_reducible exact H2_)|(have H2_:=(Option.bind_some _ _).symm.trans H;with_reducible exact H2_)|with_reducible exact H|(rw [hy262];exact H)|exact H
    have Ny262:=Aside0.mk hy262
    clear hy262
    replace H:=Option.bind_eq_some_iff.mp H
    obtain ⟨t263,A80,H⟩:=H
    replace H : (some (y262,l0_1,l0_2,t263)) = some (r1,r2,r3,r4):=H
    have A8:=Aside0.mk A80
    clear A80
    simp only [Option.some.injEq,Prod.mk.injEq] at H
    obtain ⟨rfl,rfl,rfl,rfl⟩:=H
    go_enter Try.func67,Try.ntmps67
    go_wp2_with (first|((with_reducible refine gate_dst (N:=7) rfl ?_);refine Kd.R_make (Kd.int .u8) _ 5 rfl (N:=7) rfl 23 _ _ rfl 128 rfl rfl Try.underlying23 (.int .u8 0) 1 info5 rfl (by decide) (by omega) 0 (ok:=fun _=>True) (okp:=fun _=>True) rfl (fun _ hk=>hk) trivial (by omega) (by omega) (Below.refl _ _) (Nat.le_refl _) ?_;intro v259 w9 ho10 hb hg_ hnew_;clear hg_ hnew_;(first|rw [← Ny258.out] at ho10|(simp only [Int.reduceToNat] at ho10;rw [← Ny258.out] at ho10));have n0_:=Aside0.mk (Kd.S_elder' (by exact HO0_0.out) (Kd.R_base ho10) hb);have n1_:=Aside0.mk (Kd.R_elder' (by exact HO0_1.out) (Kd.R_base ho10) hb);have n2_:=Aside0.mk (Kd.R_below (by exact HO0_2.out) hb);have n3_:=Aside0.mk (Kd.R_below (by exact HO0_3.out) hb);have n4_:=Aside0.mk (Kd.R_lower (Kd.R_new' (Kd.R_newM (M:=fun k_=>((P0_0_ k_ ∨ P0_1_ k_ ∨ P0_2_ k_ ∨ P0_3_ k_) ∨ w.heap.size ≤ k_)) ho10 (by first|exact HK.out.1|exact (show Kept w _ (fun k_=>(P0_0_ k_ ∨ P0_1_ k_ ∨ P0_2_ k_ ∨ P0_3_ k_) ∨ k_ = g0_) from by repeat (first|(with_reducible first|exact HK.out|apply Kept.alloc|apply Kept.drewN|apply Kept.drew|refine Kept.setCell ?_ (.inl (.inr rfl)) _)|exact HK.out)).1) (fun k_ h_=>.inr h_)) (Kd.R_lt (by exact HO0_1.out))) (below_size (by repeat (first|(with_reducible first|exact HB.out|apply below_alloc|apply pw_below_drewN|apply below_drew1|refine below_set ?_ GE0.out)|exact HB.out))));have n5_:=Aside0.mk (blk_below (g:=g0_) (o:=.cells #[u9000_,u9001_,u9002_,u9003_] 29 (0,0)) (by exact BK0.out) hb);have n6_:=Aside0.mk (Kept.below (S:=(fun k_=>(P0_0_ k_ ∨ P0_1_ k_ ∨ P0_2_ k_ ∨ P0_3_ k_) ∨ k_ = g0_)) (by repeat (first|(with_reducible first|exact HK.out|apply Kept.alloc|apply Kept.drewN|apply Kept.drew|refine Kept.setCell ?_ (.inl (.inr rfl)) _)|exact HK.out)) hb);have n7_:=Aside0.mk (below_step (by repeat (first|(with_reducible first|exact HB.out|apply below_alloc|apply pw_below_drewN|apply below_drew1|refine below_set ?_ GE0.out)|exact HB.out)) hb);clear HO0_0;clear HO0_1;clear HO0_2;clear HO0_3;clear BK0;clear HK;clear HB;have HO0_0:=n0_;have HO0_1:=n1_;have HO0_2:=n2_;have HO0_3:=n3_;have HO260:=n4_;have BK0:=n5_;have HK:=n6_;have HB:=n7_;clear n0_ n1_ n2_ n3_ n4_ n5_ n6_ n7_;clear hb ho10;obtain ⟨Ao13,co13,eo13⟩:=Kd.R_slice HO260.out;subst eo13;have n_:=Aside0.mk (Kd.R_mono (ok':=(fun k_=>((P0_0_ k_ ∨ P0_1_ k_ ∨ P0_2_ k_ ∨ P0_3_ k_) ∨ w.heap.size ≤ k_)∧some k_ ≠ (u9001_ : Value).ownBlock)) HO260.out (fun k_ hk=>⟨hk.1.1,hk.2⟩));clear HO260;have HO260:=n_;clear n_)|((with_reducible refine gate_builtin (b:=.copy) (xs:=#[.tmp 8,.tmp 9]) rfl ?_);refine R_copyint .u8 (w0:=w0) w0.heap.size rfl (.tmp 8) (.tmp 9) 23 23 5 rfl Try.underlying23 info5 Ao13 y258.length co13 y258 l2 _ _ _ (fun k_=>((P0_0_ k_ ∨ P0_1_ k_ ∨ P0_2_ k_ ∨ P0_3_ k_) ∨ w.heap.size ≤ k_)∧some k_ ≠ (u9001_ : Value).ownBlock) rfl rfl ?cO ?cR ?cB ?cS ?_;(case cO=>exact (by exact HO260.out));(case cR=>exact Kd.C_kept_now HR2.out (by repeat (first|(with_reducible first|exact HK.out|apply Kept.alloc|apply Kept.drewN|apply Kept.drew|refine Kept.setCell ?_ (.inl (.inr rfl)) _)|exact HK.out)));(case cB=>exact (by repeat (first|(with_reducible first|exact HB.out|apply below_alloc|apply pw_below_drewN|apply below_drew1|refine below_set ?_ GE0.out)|exact HB.out)));(case cS=>exact (below_size (by repeat (first|(with_reducible first|exact HB.out|apply below_alloc|apply pw_below_drewN|apply below_drew1|refine below_set ?_ GE0.out)|exact HB.out))));intro w11 q12 ho hb hg;rw [← Ny261.out] at ho;have n0_:=Aside0.mk (blk_grown (g:=g0_) (o:=.cells #[u9000_,u9001_,u9002_,u9003_] 29 (0,0)) (by exact BK0.out) hg (Kd.R_ne HO260.out BK0.out (by decide)));have n1_:=Aside0.mk (Kd.S_after (v:=(.slice Ao13 y258.length co13)) (v1:=(.slice Ao13 y258.length co13)) (ok:=(fun k_=>((P0_0_ k_ ∨ P0_1_ k_ ∨ P0_2_ k_ ∨ P0_3_ k_) ∨ w.heap.size ≤ k_)∧some k_ ≠ (u9001_ : Value).ownBlock)) (by exact HO0_0.out) hg (.inl rfl));have n2_:=Aside0.mk (Kd.R_after (v:=(.slice Ao13 y258.length co13)) (v1:=(.slice Ao13 y258.length co13)) (ok:=(fun k_=>((P0_0_ k_ ∨ P0_1_ k_ ∨ P0_2_ k_ ∨ P0_3_ k_) ∨ w.heap.size ≤ k_))) (by exact HO0_1.out) hg (.inl rfl));have n3_:=Aside0.mk (Kd.R_over' (v:=(.slice Ao13 y258.length co13)) (by exact HO0_2.out) (Kd.R_typed HO260.out) (by decide) hg);have n4_:=Aside0.mk (Kd.R_over' (v:=(.slice Ao13 y258.length co13)) (by exact HO0_3.out) (Kd.R_typed HO260.out) (by decide) hg);have n5_:=Aside0.mk (ho);have n6_:=Aside0.mk (hb);have n7_:=Aside0.mk (Kept.of_grown (S:=(fun k_=>(P0_0_ k_ ∨ P0_1_ k_ ∨ P0_2_ k_ ∨ P0_3_ k_) ∨ k_ = g0_)) hg (by repeat (first|(with_reducible first|exact HK.out|apply Kept.alloc|apply Kept.drewN|apply Kept.drew|refine Kept.setCell ?_ (.inl (.inr rfl)) _)|exact HK.out)) (fun k_ e_=>Or.imp_left Or.inl ((HO260.out.1 k_ e_).1)));clear BK0;clear HO0_0;clear HO0_1;clear HO0_2;clear HO0_3;clear HO260;clear HB;clear HK;have BK0:=n0_;have HO0_0:=n1_;have HO0_1:=n2_;have HO0_2:=n3_;have HO0_3:=n4_;have HO260:=n5_;have HB:=n6_;have HK:=n7_;clear n0_ n1_ n2_ n3_ n4_ n5_ n6_ n7_;clear ho hb hg;have hcz14_0 : w11.cell? ⟨g0_,0,none⟩ = some (u9000_):=(blk_cell BK0.out 0).trans rfl;have hcz14_1 : w11.cell? ⟨g0_,1,none⟩ = some (u9001_):=(blk_cell BK0.out 1).trans rfl;have hcz14_2 : w11.cell? ⟨g0_,2,none⟩ = some (u9002_):=(blk_cell BK0.out 2).trans rfl;have hcz14_3 : w11.cell? ⟨g0_,3,none⟩ = some (u9003_):=(blk_cell BK0.out 3).trans rfl;have hfz14_0:=blk_frozen BK0.out 0;have hfz14_1:=blk_frozen BK0.out 1;have hfz14_2:=blk_frozen BK0.out 2;have hfz14_3:=blk_frozen BK0.out 3;have p7 : 0 ≤ (a1 : Int):=of_decide_eq_true (by assumption);have q7 : (a1 : Int) < ((l0_0.length : Int) : Int):=of_decide_eq_true (by assumption);obtain ⟨go7,co7,eo7,gb7,gl7,cl7,HG7⟩:=Kd.S_form HO0_0.out (by omega);(first|cases eo7|(injection eo7 with ea_ en_ ec_;(first|subst ea_|(injection ea_ with ea_;subst ea_));subst ec_;clear en_));have GB7:=Aside0.mk gb7;have GG7:=Aside0.mk HG7;clear gb7 gl7 HG7;have HMgo7:=Aside0.mk (show ((P0_0_ go7 ∨ P0_1_ go7 ∨ P0_2_ go7 ∨ P0_3_ go7) ∨ w.heap.size ≤ go7) from ((Kd.S_R HO0_0.out).1 _ rfl).1.1);obtain ⟨_,ce7,hcl7,hM7,hcc7,hfr7,_,_⟩:=Kd.S_elem HO0_0.out [] (a1 : Int) p7 q7;obtain ⟨ve7_0,rfl,ge7_0⟩:=hM7;have hx7_0:=hcc7 0 _ rfl;have hf7_0:=hfr7 0;(try simp only [show ((Kd.slice 5 (Kd.int .u8))).sz = 1 from rfl,Nat.mul_one,Nat.add_zero] at hx7_0);(try simp only [show ((Kd.slice 5 (Kd.int .u8))).sz = 1 from rfl,Nat.mul_one,Nat.add_zero] at hf7_0);(try clear hM7);clear hcl7 hcc7 hfr7;replace p7:=eq_true p7;replace q7:=eq_true q7;have n_:=Aside0.mk (Kd.S_mono (ok':=(fun k_=>((P0_0_ k_ ∨ P0_1_ k_ ∨ P0_2_ k_ ∨ P0_3_ k_) ∨ w.heap.size ≤ k_)∧some k_ ≠ (u9001_ : Value).ownBlock∧some k_ ≠ (.slice Ao13 y258.length co13 : Value).ownBlock)) HO0_0.out (fun k_ hk=>⟨hk.1.1,⟨hk.1.2,hk.2⟩⟩));clear HO0_0;have HO0_0:=n_;clear n_;have HX15:=Aside0.mk (show Kd.S (Kd.slice 5 (Kd.int .u8)) 23 w11 w0.heap.size (fun k_=>((fun k_=>((P0_0_ k_ ∨ P0_1_ k_ ∨ P0_2_ k_ ∨ P0_3_ k_) ∨ w.heap.size ≤ k_)∧some k_ ≠ (u9001_ : Value).ownBlock)) k_∧¬ ((fun k_=>some k_ = (.slice Ao13 y258.length co13 : Value).ownBlock)) k_) (.slice (some ⟨go7,0,none⟩) l0_0.length co7) l0_0 from (by exact Kd.S_mono HO0_0.out (fun k_ hk=>⟨⟨hk.1,hk.2.1⟩,fun e_=>hk.2.2 e_⟩)));obtain ⟨oki15,ce15,hcl15,hM15,hcc15,hfr15,hoki15,hH15⟩:=Kd.S_elem HX15.out [] (a1 : Int) (of_decide_eq_true (by assumption)) (by have h_ : (a1 : Int) < ((l0_0.length : Int) : Int):=of_decide_eq_true (by assumption);first|exact h_|(have e_:=(Kd.S_reads' HO0_0.out).1;omega)|simpa using h_);obtain ⟨ve15_0,rfl,ge15_0⟩:=hM15;have HP15:=Kd.S_seg hH15 (of_decide_eq_true (by assumption)) (by have h_ : (a1 : Int) < ((l0_0.length : Int) : Int):=of_decide_eq_true (by assumption);first|exact h_|(have e_:=(Kd.S_reads' HO0_0.out).1;omega)|simpa using h_) (seg:=[.slice Ao13 y258.length co13]) (j:=0) (show 1 ≤ 1 from by decide) (x':=y261) (Kd.M_row (Kd.R_mono (Kd.R_tight rfl (Kd.R_mono (ok':=fun k_=>((fun k_=>((P0_0_ k_ ∨ P0_1_ k_ ∨ P0_2_ k_ ∨ P0_3_ k_) ∨ w.heap.size ≤ k_)∧some k_ ≠ (u9001_ : Value).ownBlock)) k_∧k_ ≠ go7) (Kd.R_apart' (HO260.out) (Kd.S_typed HO0_0.out) (by decide)) (fun k_ hk=>⟨⟨hk.1.1,hk.1.2⟩,fun e_=>(hk.2) (by rw [e_];rfl)⟩))) (fun _ h_=>Or.inr (h_)))) (fun _ hk=>hk) (fun k_ hk_=>((Kd.R_mono (ok':=fun k_=>((fun k_=>((P0_0_ k_ ∨ P0_1_ k_ ∨ P0_2_ k_ ∨ P0_3_ k_) ∨ w.heap.size ≤ k_)∧some k_ ≠ (u9001_ : Value).ownBlock)) k_∧k_ ≠ go7) (Kd.R_apart' (HO260.out) (Kd.S_typed HO0_0.out) (by decide)) (fun k_ hk=>⟨⟨hk.1.1,hk.1.2⟩,fun e_=>(hk.2) (by rw [e_];rfl)⟩))).1 k_ hk_.symm);have hx15_0:=hcc15 0 _ rfl;(try simp only [show ((Kd.slice 5 (Kd.int .u8))).sz = 1 from rfl,Nat.mul_one,Nat.add_zero] at hx15_0);have hf15_0:=hfr15 0;(try simp only [show ((Kd.slice 5 (Kd.int .u8))).sz = 1 from rfl,Nat.mul_one,Nat.add_zero] at hf15_0);(try clear hM15);clear hcl15 hcc15 hfr15 hoki15 hH15;(try simp only [show ((Kd.slice 5 (Kd.int .u8))).sz = 1 from rfl,Nat.mul_one,Nat.add_zero] at HP15))|((with_reducible refine gate_store (t:=23) (p:=17) rfl ?_);refine store_event (t:=23) (p:=17) (v:=?vo_w16) (w1:=(w11.setCell ⟨go7,(a1 : Int).toNat,none⟩ (.slice Ao13 y258.length co13))) ?hg ?ho ?hn ?hr ?_;(case ho=>rfl);(case hg=>rfl);(case hn=>rfl);(case hr=>first|(go_simp;done)|(go_simp;rfl));intro w16 hw;have hg : w11.grownBy w16 (some go7):=(by rw [hw];exact HP15.2);have hp_ : Kd.S (Kd.slice 5 (Kd.int .u8)) 23 w16 w0.heap.size (fun k_=>((P0_0_ k_ ∨ P0_1_ k_ ∨ P0_2_ k_ ∨ P0_3_ k_) ∨ w.heap.size ≤ k_)∧some k_ ≠ (u9001_ : Value).ownBlock) (.slice (some ⟨go7,0,none⟩) l0_0.length co7) y262:=(by rw [hw,Ny262.out];exact HP15.1);clear HP15;have n0_:=Aside0.mk (blk_grown (g:=g0_) (o:=.cells #[.slice (some ⟨go7,0,none⟩) l0_0.length co7,u9001_,u9002_,u9003_] 29 (0,0)) (by exact BK0.out) hg (Kd.S_ne HO0_0.out BK0.out (by decide)));have n1_:=Aside0.mk (hp_);have n2_:=Aside0.mk (Kd.R_over' (v:=(.slice (some ⟨go7,0,none⟩) l0_0.length co7)) (by exact HO0_1.out) (Kd.S_typed HO0_0.out) (by decide) hg);have n3_:=Aside0.mk (Kd.R_over' (v:=(.slice (some ⟨go7,0,none⟩) l0_0.length co7)) (by exact HO0_2.out) (Kd.S_typed HO0_0.out) (by decide) hg);have n4_:=Aside0.mk (Kd.R_over' (v:=(.slice (some ⟨go7,0,none⟩) l0_0.length co7)) (by exact HO0_3.out) (Kd.S_typed HO0_0.out) (by decide) hg);have n5_:=Aside0.mk ((by rw [hw];exact below_set (HB.out) GB7.out : Below w0.heap.size w0 w16));have n6_:=Aside0.mk (Kept.of_grown (S:=(fun k_=>(P0_0_ k_ ∨ P0_1_ k_ ∨ P0_2_ k_ ∨ P0_3_ k_) ∨ k_ = g0_)) hg (by repeat (first|(with_reducible first|exact HK.out|apply Kept.alloc|apply Kept.drewN|apply Kept.drew|refine Kept.setCell ?_ (.inl (.inr rfl)) _)|exact HK.out)) (fun k_ e_=>Or.imp_left Or.inl (((Kd.S_R HO0_0.out).1 k_ e_).1)));clear BK0;clear HO0_0;clear HO0_1;clear HO0_2;clear HO0_3;clear HB;clear HK;clear HO260;have BK0:=n0_;have HO0_0:=n1_;have HO0_1:=n2_;have HO0_2:=n3_;have HO0_3:=n4_;have HB:=n5_;have HK:=n6_;clear n0_ n1_ n2_ n3_ n4_ n5_ n6_;clear hg hw hp_;have hcz17_0 : w16.cell? ⟨g0_,0,none⟩ = some (.slice (some ⟨go7,0,none⟩) l0_0.length co7):=(blk_cell BK0.out 0).trans rfl;have hcz17_1 : w16.cell? ⟨g0_,1,none⟩ = some (u9001_):=(blk_cell BK0.out 1).trans rfl;have hcz17_2 : w16.cell? ⟨g0_,2,none⟩ = some (u9002_):=(blk_cell BK0.out 2).trans rfl;have hcz17_3 : w16.cell? ⟨g0_,3,none⟩ = some (u9003_):=(blk_cell BK0.out 3).trans rfl;have hfz17_0:=blk_frozen BK0.out 0;have hfz17_1:=blk_frozen BK0.out 1;have hfz17_2:=blk_frozen BK0.out 2;have hfz17_3:=blk_frozen BK0.out 3;obtain ⟨Ao18,co18,eo18⟩:=Kd.R_slice HO0_3.out;subst eo18)|((with_reducible refine gate_callee (f:=71) rfl ?_);refine goesL_ (some 24) rfl rfl Try.func71 (by kernel_rfl) rfl #[.slice Ao18 l0_3.length co18,.int .i64 a1] rfl (by (try simp only [List.map_toArray,List.map_cons,List.map_nil]);first|done|rfl|(simp only [List.length_drop,List.length_take];rfl)) ?_;(with_reducible refine (spec_l5Put.calls k (fun k_=>some k_ = (.slice Ao18 l0_3.length co18 : Value).ownBlock) (.slice Ao18 l0_3.length co18) l0_3 a1 t263 w0 _ ?side1 ?side2 A8.out).mono ?_);(case side1=>repeat (first|(with_reducible first|exact HB.out|apply below_alloc|apply pw_below_drewN|apply below_drew1|refine below_set ?_ GE0.out)|exact HB.out));(case side2=>exact Kd.R_tight rfl HO0_3.out);rintro e w19 ⟨v264,rfl,ho0,hb,hkp⟩;refine ⟨_,rfl,?_⟩;have n0_:=Aside0.mk (blk_kept (g:=g0_) (o:=.cells #[.slice (some ⟨go7,0,none⟩) l0_0.length co7,u9001_,u9002_,.slice Ao18 l0_3.length co18] 29 (0,0)) (by exact BK0.out) hkp (fun hs_=>(fun e_=>(Kd.R_ne HO0_3.out BK0.out (by decide)) e_) hs_));have n1_:=Aside0.mk (Kd.S_mono (ok':=fun k_=>((P0_0_ k_ ∨ P0_1_ k_ ∨ P0_2_ k_ ∨ P0_3_ k_) ∨ w.heap.size ≤ k_)∧some k_ ≠ (u9001_ : Value).ownBlock) (Kd.S_keptB ((Kd.S_apart' HO0_0.out (Kd.R_typed HO0_3.out) (by decide))) hkp (fun k_ hk_ hs_=>(hk_.2) hs_)) (fun k_ hk_=>⟨hk_.1.1.1,hk_.1.1.2⟩));have n2_:=Aside0.mk (Kd.R_mono (ok':=fun k_=>((P0_0_ k_ ∨ P0_1_ k_ ∨ P0_2_ k_ ∨ P0_3_ k_) ∨ w.heap.size ≤ k_)) (Kd.R_keptB ((Kd.R_apart' HO0_1.out (Kd.R_typed HO0_3.out) (by decide))) hkp (fun k_ hk_ hs_=>(hk_.2) hs_)) (fun k_ hk_=>hk_.1.1.1));have n3_:=Aside0.mk (Kd.R_mono (ok':=fun k_=>((P0_0_ k_ ∨ P0_1_ k_ ∨ P0_2_ k_ ∨ P0_3_ k_) ∨ w.heap.size ≤ k_)∧some k_ ≠ (v264 : Value).ownBlock) (Kd.R_keptB (HO0_2.out) hkp (fun k_ hk_ hs_=>(hk_.2) hs_)) (fun k_ hk_=>⟨hk_.1.1,fun e_=>Or.elim (ho0.1 k_ e_.symm) (fun hs_=>hk_.2.1 hs_) (fun hn_=>Nat.not_le.2 hk_.2.2 hn_)⟩));have n4_:=Aside0.mk (Kd.R_mono (ok':=fun k_=>((P0_0_ k_ ∨ P0_1_ k_ ∨ P0_2_ k_ ∨ P0_3_ k_) ∨ w.heap.size ≤ k_)∧some k_ ≠ (u9002_ : Value).ownBlock) ho0 (fun k_ hk_=>⟨Or.elim hk_ (fun hs_=>(HO0_3.out.1 k_ (hs_).symm).1) (fun hn_=>(.inr (Nat.le_trans (by first|exact HK.out.1|exact (show Kept w _ (fun k_=>(P0_0_ k_ ∨ P0_1_ k_ ∨ P0_2_ k_ ∨ P0_3_ k_) ∨ k_ = g0_) from by repeat (first|(with_reducible first|exact HK.out|apply Kept.alloc|apply Kept.drewN|apply Kept.drew|refine Kept.setCell ?_ (.inl (.inr rfl)) _)|exact HK.out)).1) hn_))),Or.elim hk_ (fun hs_=>fun e_=>((HO0_2.out.1 k_ e_.symm).2) hs_) (fun hn_=>(Kd.fresh' (Kd.R_lt (by exact HO0_2.out)) k_ hn_))⟩));have n5_:=Aside0.mk (Kept.then_ (S:=(fun k_=>(P0_0_ k_ ∨ P0_1_ k_ ∨ P0_2_ k_ ∨ P0_3_ k_) ∨ k_ = g0_)) (by repeat (first|(with_reducible first|exact HK.out|apply Kept.alloc|apply Kept.drewN|apply Kept.drew|refine Kept.setCell ?_ (.inl (.inr rfl)) _)|exact HK.out)) hkp (fun k_ hs_=>(fun e_=>Or.imp_left Or.inl ((HO0_3.out.1 k_ e_.symm).1)) hs_));have n6_:=Aside0.mk (hb);clear BK0;clear HO0_0;clear HO0_1;clear HO0_2;clear HK;clear HB;clear HO0_3;have BK0:=n0_;have HO0_0:=n1_;have HO0_1:=n2_;have HO0_2:=n3_;have HO265:=n4_;have HK:=n5_;have HB:=n6_;clear n0_ n1_ n2_ n3_ n4_ n5_ n6_;(try clear hb);(try clear hkp);(try clear hbx);(try clear ho0);obtain ⟨Ao20,co20,eo20⟩:=Kd.R_slice HO265.out;subst eo20;have hcz21_0 : w19.cell? ⟨g0_,0,none⟩ = some (.slice (some ⟨go7,0,none⟩) l0_0.length co7):=(blk_cell BK0.out 0).trans rfl;have hcz21_1 : w19.cell? ⟨g0_,1,none⟩ = some (u9001_):=(blk_cell BK0.out 1).trans rfl;have hcz21_2 : w19.cell? ⟨g0_,2,none⟩ = some (u9002_):=(blk_cell BK0.out 2).trans rfl;have hcz21_3 : w19.cell? ⟨g0_,3,none⟩ = some (.slice Ao18 l0_3.length co18):=(blk_cell BK0.out 3).trans rfl;have hfz21_0:=blk_frozen BK0.out 0;have hfz21_1:=blk_frozen BK0.out 1;have hfz21_2:=blk_frozen BK0.out 2;have hfz21_3:=blk_frozen BK0.out 3))
    first|go_end0|((try simp only [Exit.inBlock,Exit.then]);refine bodyPost_ret (results_none rfl _ _ _) rfl ?_)
    (first|refine ⟨(.slice (some ⟨go7,0,none⟩) l0_0.length co7 : Value),(u9001_ : Value),(u9002_ : Value),(.slice Ao20 t263.length co20 : Value),?e_,?r_⟩|refine ⟨?e_,(.slice (some ⟨go7,0,none⟩) l0_0.length co7 : Value),(u9001_ : Value),(u9002_ : Value),(.slice Ao20 t263.length co20 : Value),?r_⟩|(simp only [← exists_and_left];refine ⟨(.slice (some ⟨go7,0,none⟩) l0_0.length co7 : Value),(u9001_ : Value),(u9002_ : Value),(.slice Ao20 t263.length co20 : Value),?e_,?r_⟩))
    (case e_=>first|rfl|(simp [errW_none,errW_some] <;> rfl)|(simp [*,errW_none,errW_some] <;> rfl))
    (case r_=>exact ⟨by exact Kd.S_mono (Kd.S_far (p:=⟨g0_,3,none⟩) (Kd.S_types HO0_0.out BK0.out (by decide)) (fun _ hk=>hk.2) (.slice Ao20 t263.length co20)) (fun _ hk=>⟨hk.1.1,hk.1.2⟩),by exact Kd.R_mono (Kd.R_far (p:=⟨g0_,3,none⟩) (Kd.R_types HO0_1.out BK0.out (by decide)) (fun _ hk=>hk.2) (.slice Ao20 t263.length co20)) (fun _ hk=>hk.1),by exact Kd.R_mono (Kd.R_far (p:=⟨g0_,3,none⟩) (Kd.R_types HO0_2.out BK0.out (by decide)) (fun _ hk=>hk.2) (.slice Ao20 t263.length co20)) (fun _ hk=>⟨hk.1.1,hk.1.2⟩),by exact Kd.R_mono (Kd.R_far (p:=⟨g0_,3,none⟩) (Kd.R_types HO265.out BK0.out (by decide)) (fun _ hk=>hk.2) (.slice Ao20 t263.length co20)) (fun _ hk=>⟨hk.1.1,hk.1.2⟩),by refine blk_put (cs:=#[.slice (some ⟨go7,0,none⟩) l0_0.length co7,u9001_,u9002_,.slice Ao18 l0_3.length co18]) ?_ 3 _ rfl;exact BK0.out,by repeat (first|(with_reducible first|exact HB.out|apply below_alloc|apply pw_below_drewN|apply below_drew1|refine below_set ?_ GE0.out)|exact HB.out),by repeat (first|(with_reducible first|exact HK.out|apply Kept.alloc|apply Kept.drewN|apply Kept.drew|refine Kept.setCell ?_ (.inl (.inr rfl)) _)|exact HK.out)⟩)
   ·rw [if_neg c6] at H
    exact absurd H (by simp)
  ·rw [if_neg c5] at H
   exact absurd H (by simp)
 ·rw [if_neg c4] at H
  exact absurd H (by simp)

/-! ### spec_PutIn: function 30 -/
def spec_PutIn.j0 : Nat → Int → List Int → Bool → List (List Int) → List Int → List Int → List Int → Option ((List (List Int)) × List Int × List Int × List Int × Bool)
 | 0,_,_,_,_,_,_,_=>none
 | k + 1,x1,x2,x21,x267000,x267001,x267002,x267003=>if x21 = true then (some (([] : List (List Int)),([] : List Int),([] : List Int),([] : List Int),false)) else ((spec_l5Own.f k x267000 x267001 x267002 x267003).bind fun bt270=>((spec_l5Lay.f k bt270.1 bt270.2.1 bt270.2.2.1 bt270.2.2.2 x1 x2).bind fun bt282=>(some (bt282.1,bt282.2.1,bt282.2.2.1,bt282.2.2.2,true))))
def spec_PutIn.f (k : Nat) (l0_0 : List (List Int)) (l0_1 : List Int) (l0_2 : List Int) (l0_3 : List Int) (a1 : Int) (l2 : List Int) : Option ((List (List Int)) × List Int × List Int × List Int × Bool):=(spec_GoodSpace.f k l0_0 l0_1 l0_2 l0_3).bind fun t268=>(if t268 = true then ((spec_l5Live.f k l0_0 l0_1 l0_2 l0_3 a1).bind fun t269=>(if t269 = true then (spec_PutIn.j0 k a1 l2 ((l2.length : Int) != 128) l0_0 l0_1 l0_2 l0_3) else (spec_PutIn.j0 k a1 l2 true l0_0 l0_1 l0_2 l0_3))) else (spec_PutIn.j0 k a1 l2 true l0_0 l0_1 l0_2 l0_3))
theorem spec_PutIn.mono_l : ∀ k,(∀ y0 y1 y2 y3 y4 y5 y6,LeO (spec_PutIn.j0 k y0 y1 y2 y3 y4 y5 y6) (spec_PutIn.j0 (k + 1) y0 y1 y2 y3 y4 y5 y6))
 | 0=>fun _ _ _ _ _ _ _ r h=>by simp [spec_PutIn.j0] at h
 | k + 1=>by
  have ih0:=spec_PutIn.mono_l k
  ·intro y0 y1 y2 y3 y4 y5 y6
   unfold spec_PutIn.j0
   repeat' first
   | (with_reducible exact ih0 _ _ _ _ _ _ _)
   | (with_reducible exact spec_GoodSpace.mono _ _ _ _ _)
   | (with_reducible exact spec_l5Lay.mono _ _ _ _ _ _ _)
   | (with_reducible exact spec_l5Live.mono _ _ _ _ _ _)
   | (with_reducible exact spec_l5Own.mono _ _ _ _ _)
   | (with_reducible exact LeO.refl _)
   | (with_reducible exact LeO.none _)
   | (with_reducible refine LeO.ite ?_ ?_)
   | (with_reducible refine LeO.bind ?_ (fun _=>?_))
   | exact ih0 _ _ _ _ _ _ _
   | exact spec_GoodSpace.mono _ _ _ _ _
   | exact spec_l5Lay.mono _ _ _ _ _ _ _
   | exact spec_l5Live.mono _ _ _ _ _ _
   | exact spec_l5Own.mono _ _ _ _ _
   | exact LeO.none _
   | refine LeO.ite ?_ ?_
   | refine LeO.bind ?_ (fun _=>?_)
theorem spec_PutIn.mono : ∀ a0 a1 a2 a3 a4 a5 k,LeO (spec_PutIn.f k a0 a1 a2 a3 a4 a5) (spec_PutIn.f (k + 1) a0 a1 a2 a3 a4 a5):=by
 intro a0 a1 a2 a3 a4 a5 k
 have ih0:=spec_PutIn.mono_l k
 unfold spec_PutIn.f
 repeat' first
   | (with_reducible exact ih0 _ _ _ _ _ _ _)
   | (with_reducible exact spec_GoodSpace.mono _ _ _ _ _)
   | (with_reducible exact spec_l5Lay.mono _ _ _ _ _ _ _)
   | (with_reducible exact spec_l5Live.mono _ _ _ _ _ _)
   | (with_reducible exact spec_l5Own.mono _ _ _ _ _)
   | (with_reducible exact LeO.refl _)
   | (with_reducible exact LeO.none _)
   | (with_reducible refine LeO.ite ?_ ?_)
   | (with_reducible refine LeO.bind ?_ (fun _=>?_))
   | exact ih0 _ _ _ _ _ _ _
   | exact spec_GoodSpace.mono _ _ _ _ _
   | exact spec_l5Lay.mono _ _ _ _ _ _ _
   | exact spec_l5Live.mono _ _ _ _ _ _
   | exact spec_l5Own.mono _ _ _ _ _
   | exact LeO.none _
   | refine LeO.ite ?_ ?_
   | refine LeO.bind ?_ (fun _=>?_)
set_option maxHeartbeats 8000000 in
set_option maxRecDepth 100000 in
theorem spec_PutIn.calls (k : Nat) (A0_0 : Option Addr) (c0_0 : Nat) (l0_0 : List (List Int)) (A0_1 : Option Addr) (c0_1 : Nat) (l0_1 : List Int) (A0_2 : Option Addr) (c0_2 : Nat) (l0_2 : List Int) (A0_3 : Option Addr) (c0_3 : Nat) (l0_3 : List Int) (a1 : Int) (A2 : Option Addr) (c2 : Nat) (l2 : List Int) (r1 : List (List Int)) (r2 : List Int) (r3 : List Int) (r4 : List Int) (r5 : Bool) (w : World) (hr0_0 : Kd.C (Kd.slice 5 (Kd.int .u8)) w A0_0 l0_0.length l0_0) (hc0_0 : l0_0.length ≤ c0_0) (hr0_1 : Kd.C (Kd.int .u8) w A0_1 l0_1.length l0_1) (hc0_1 : l0_1.length ≤ c0_1) (hr0_2 : Kd.C (Kd.int .i64) w A0_2 l0_2.length l0_2) (hc0_2 : l0_2.length ≤ c0_2) (hr0_3 : Kd.C (Kd.int .i64) w A0_3 l0_3.length l0_3) (hc0_3 : l0_3.length ≤ c0_3) (hr2 : Kd.C (Kd.int .u8) w A2 l2.length l2) (hc2 : l2.length ≤ c2) (h : spec_PutIn.f k l0_0 l0_1 l0_2 l0_3 a1 l2 = some (r1,r2,r3,r4,r5)) :
  Calls Try.prog 30 #[.agg #[.slice A0_0 l0_0.length c0_0,.slice A0_1 l0_1.length c0_1,.slice A0_2 l0_2.length c0_2,.slice A0_3 l0_3.length c0_3],.int .i64 a1,.slice A2 l2.length c2] w fun e w'=>∃ v0_ v1_ v2_ v3_ : Value,e = .returned (.tuple #[.agg #[v0_,v1_,v2_,v3_],.bool r5])∧Kd.S (Kd.slice 5 (Kd.int .u8)) 23 w' w.heap.size (fun k_=>some k_ ≠ (v1_ : Value).ownBlock) v0_ r1∧Kd.R (Kd.int .u8) 5 w' w.heap.size (fun _=>True) v1_ r2∧Kd.R (Kd.int .i64) 3 w' w.heap.size (fun k_=>some k_ ≠ (v3_ : Value).ownBlock) v2_ r3∧Kd.R (Kd.int .i64) 3 w' w.heap.size (fun k_=>some k_ ≠ (v2_ : Value).ownBlock) v3_ r4∧Below w.heap.size w w':=by
 have hu29:=Try.underlying29
 have HR0_0:=Aside0.mk hr0_0
 have HC0_0:=Aside0.mk hc0_0
 clear hr0_0 hc0_0
 have HR0_1:=Aside0.mk hr0_1
 have HC0_1:=Aside0.mk hc0_1
 clear hr0_1 hc0_1
 have HR0_2:=Aside0.mk hr0_2
 have HC0_2:=Aside0.mk hc0_2
 clear hr0_2 hc0_2
 have HR0_3:=Aside0.mk hr0_3
 have HC0_3:=Aside0.mk hc0_3
 clear hr0_3 hc0_3
 have HR2:=Aside0.mk hr2
 have HC2:=Aside0.mk hc2
 clear hr2 hc2
 have HB:=Aside0.mk (Below.refl w.heap.size w)
 have H : ((spec_GoodSpace.f k l0_0 l0_1 l0_2 l0_3).bind fun t268=>(if t268 = true then ((spec_l5Live.f k l0_0 l0_1 l0_2 l0_3 a1).bind fun t269=>(if t269 = true then (spec_PutIn.j0 k a1 l2 ((l2.length : Int) != 128) l0_0 l0_1 l0_2 l0_3) else (spec_PutIn.j0 k a1 l2 true l0_0 l0_1 l0_2 l0_3))) else (spec_PutIn.j0 k a1 l2 true l0_0 l0_1 l0_2 l0_3))) = some (r1,r2,r3,r4,r5):=h
 clear h
 have HC4:=Aside0.mk H
 clear H
 go_enter Try.func30,Try.ntmps30
 go_upto_region 1 with (first|((with_reducible refine gate_dst (N:=3) rfl ?_);(try (refine gate_guard (by rfl) ?_;dsimp only));refine box_event ?hg (N:=3) ?hd (cs:=#[.slice A0_0 l0_0.length c0_0,.slice A0_1 l0_1.length c0_1,.slice A0_2 l0_2.length c0_2,.slice A0_3 l0_3.length c0_3]) (t:=29) ?hr ?_;(case hd=>rfl);(case hg=>rfl);(case hr=>first|(go_simp;done)|(go_simp;rfl));intro gb266 hg w5 hbox hb;have n0_:=Aside0.mk (below_step (by repeat (first|exact HB.out|apply below_alloc|apply pw_below_drewN|apply below_drew1)) hb);have n1_:=Aside0.mk (hbox);have n2_:=Aside0.mk ((by rw [hg];exact (below_size (by repeat (first|exact HB.out|apply below_alloc|apply pw_below_drewN|apply below_drew1))) : w.heap.size ≤ gb266));have n3_:=Aside0.mk ((by rw [hg];exact (below_size (by repeat (first|exact HB.out|apply below_alloc|apply pw_below_drewN|apply below_drew1))) : w.heap.size ≤ gb266));clear HB;have HB:=n0_;have BK266:=n1_;have GW266:=n2_;have GE266:=n3_;clear n0_ n1_ n2_ n3_;clear hb hbox hg)|((with_reducible refine gate_dst (N:=6) rfl ?_);(try (refine gate_guard (by rfl) ?_;dsimp only));refine box_event ?hg (N:=6) ?hd (cs:=#[.slice none 0 0,.slice none 0 0,.slice none 0 0,.slice none 0 0]) (t:=29) ?hr ?_;(case hd=>rfl);(case hg=>rfl);(case hr=>first|(go_simp;done)|(go_simp;rfl));intro gb267 hg w6 hbox hb;have n0_:=Aside0.mk (blk_below (g:=gb266) (o:=.cells #[.slice A0_0 l0_0.length c0_0,.slice A0_1 l0_1.length c0_1,.slice A0_2 l0_2.length c0_2,.slice A0_3 l0_3.length c0_3] 29 (0,0)) (by exact BK266.out) hb);have n1_:=Aside0.mk (below_step (by repeat (first|(with_reducible first|exact HB.out|apply below_alloc|apply pw_below_drewN|apply below_drew1|refine below_set ?_ GE266.out)|exact HB.out)) hb);have n2_:=Aside0.mk (hbox);have n3_:=Aside0.mk ((by rw [hg];exact (below_size (by repeat (first|(with_reducible first|exact HB.out|apply below_alloc|apply pw_below_drewN|apply below_drew1|refine below_set ?_ GE266.out)|exact HB.out))) : w.heap.size ≤ gb267));have n4_:=Aside0.mk ((by rw [hg];exact (below_size (by repeat (first|(with_reducible first|exact HB.out|apply below_alloc|apply pw_below_drewN|apply below_drew1|refine below_set ?_ GE266.out)|exact HB.out))) : w.heap.size ≤ gb267));have n5_:=Aside0.mk ((by rw [hg];exact Nat.ne_of_lt (blk_lt (g:=gb266) (o:=.cells #[.slice A0_0 l0_0.length c0_0,.slice A0_1 l0_1.length c0_1,.slice A0_2 l0_2.length c0_2,.slice A0_3 l0_3.length c0_3] 29 (0,0)) (by exact BK266.out)) : gb266 ≠ gb267));have n6_:=Aside0.mk ((by rw [hg];exact Nat.ne_of_gt (blk_lt (g:=gb266) (o:=.cells #[.slice A0_0 l0_0.length c0_0,.slice A0_1 l0_1.length c0_1,.slice A0_2 l0_2.length c0_2,.slice A0_3 l0_3.length c0_3] 29 (0,0)) (by exact BK266.out)) : gb267 ≠ gb266));clear BK266;clear HB;have BK266:=n0_;have HB:=n1_;have BK267:=n2_;have GW267:=n3_;have GE267:=n4_;have NB266_267:=n5_;have NB267_266:=n6_;clear n0_ n1_ n2_ n3_ n4_ n5_ n6_;clear hb hbox hg))
 (try simp only [Act.put,List.setIfInBounds_toArray,List.set_cons_zero,List.set_cons_succ])
 go_cut [21] (fun v21 wc=>∃ (kq : Nat) (x21_3 : Bool),v21 = .bool x21_3∧Aside0 (spec_PutIn.j0 kq a1 l2 x21_3 l0_0 l0_1 l0_2 l0_3 = some (r1,r2,r3,r4,r5))∧Aside0 (kq ≤ k)∧Aside0 (wc.heap[gb266]? = some (.cells #[(.slice A0_0 l0_0.length c0_0),(.slice A0_1 l0_1.length c0_1),(.slice A0_2 l0_2.length c0_2),(.slice A0_3 l0_3.length c0_3)] 29 (0,0)))∧Aside0 (wc.heap[gb267]? = some (.cells #[(.slice none 0 0),(.slice none 0 0),(.slice none 0 0),(.slice none 0 0)] 29 (0,0)))∧Aside0 (Below w.heap.size w wc))
 case first =>
  have H:=HC4.out
  clear HC4
  replace H:=Option.bind_eq_some_iff.mp H
  obtain ⟨t268,A70,H⟩:=H
  replace H : (if t268 = true then ((spec_l5Live.f k l0_0 l0_1 l0_2 l0_3 a1).bind fun t269=>(if t269 = true then (spec_PutIn.j0 k a1 l2 ((l2.length : Int) != 128) l0_0 l0_1 l0_2 l0_3) else (spec_PutIn.j0 k a1 l2 true l0_0 l0_1 l0_2 l0_3))) else (spec_PutIn.j0 k a1 l2 true l0_0 l0_1 l0_2 l0_3)) = some (r1,r2,r3,r4,r5):=H
  have A7:=Aside0.mk A70
  clear A70
  by_cases c8 : t268 = true
  ·subst c8
   have H1 : ((spec_l5Live.f k l0_0 l0_1 l0_2 l0_3 a1).bind fun t269=>(if t269 = true then (spec_PutIn.j0 k a1 l2 ((l2.length : Int) != 128) l0_0 l0_1 l0_2 l0_3) else (spec_PutIn.j0 k a1 l2 true l0_0 l0_1 l0_2 l0_3))) = some (r1,r2,r3,r4,r5):=by rw [if_pos rfl] at H;exact H
   clear H
   have H:=H1
   clear H1
   replace H:=Option.bind_eq_some_iff.mp H
   obtain ⟨t269,A90,H⟩:=H
   replace H : (if t269 = true then (spec_PutIn.j0 k a1 l2 ((l2.length : Int) != 128) l0_0 l0_1 l0_2 l0_3) else (spec_PutIn.j0 k a1 l2 true l0_0 l0_1 l0_2 l0_3)) = some (r1,r2,r3,r4,r5):=H
   have A9:=Aside0.mk A90
   clear A90
   by_cases c10 : t269 = true
   ·subst c10
    have H1 : (spec_PutIn.j0 k a1 l2 ((l2.length : Int) != 128) l0_0 l0_1 l0_2 l0_3) = some (r1,r2,r3,r4,r5):=by rw [if_pos rfl] at H;exact H
    clear H
    have H:=H1
    clear H1
    have H':=Aside0.mk H
    clear H
    have hnb11:=NB266_267.out
    have hnc11:=NB267_266.out
    have hcz12_0 : w6.cell? ⟨gb266,0,none⟩ = some (.slice A0_0 l0_0.length c0_0):=(blk_cell BK266.out 0).trans rfl
    have hcz12_1 : w6.cell? ⟨gb266,1,none⟩ = some (.slice A0_1 l0_1.length c0_1):=(blk_cell BK266.out 1).trans rfl
    have hcz12_2 : w6.cell? ⟨gb266,2,none⟩ = some (.slice A0_2 l0_2.length c0_2):=(blk_cell BK266.out 2).trans rfl
    have hcz12_3 : w6.cell? ⟨gb266,3,none⟩ = some (.slice A0_3 l0_3.length c0_3):=(blk_cell BK266.out 3).trans rfl
    have hfz12_0:=blk_frozen BK266.out 0
    have hfz12_1:=blk_frozen BK266.out 1
    have hfz12_2:=blk_frozen BK266.out 2
    have hfz12_3:=blk_frozen BK266.out 3
    go_wp2_with (first|((with_reducible refine gate_callee (f:=11) rfl ?_);refine goesL_ (some 9) rfl rfl Try.func11 (by kernel_rfl) rfl #[.agg #[.slice A0_0 l0_0.length c0_0,.slice A0_1 l0_1.length c0_1,.slice A0_2 l0_2.length c0_2,.slice A0_3 l0_3.length c0_3]] rfl (by (try simp only [List.map_toArray,List.map_cons,List.map_nil]);first|done|rfl|(simp only [List.length_drop,List.length_take];rfl)) ?_;(with_reducible refine (spec_GoodSpace.calls k _ _ l0_0 _ _ l0_1 (fun k_=>k_ < w.heap.size) _ _ l0_2 (fun k_=>k_ < w.heap.size) _ _ l0_3 true _ ?side1 ?side2 ?side3 ?side4 ?side5 ?side6 A7.out).mono ?_);(case side1=>repeat (first|exact (Kd.C_below HR0_0.out HB.out)|(with_reducible first|apply Kd.C_alloc|apply Kd.C_drewN|apply Kd.C_drew)));(case side2=>exact HC0_0.out);(case side3=>repeat (first|exact (Kd.C_below HR0_1.out HB.out)|(with_reducible first|apply Kd.C_alloc|apply Kd.C_drewN|apply Kd.C_drew)));(case side4=>exact HC0_1.out);(case side5=>exact Kd.V_mk HC0_2.out (Kd.F_below (Kd.C_F (Kd.heap_int .i64) HR0_2.out) (by repeat (first|(with_reducible first|exact HB.out|apply below_alloc|apply pw_below_drewN|apply below_drew1|refine below_set ?_ GE266.out|refine below_set ?_ GE267.out)|exact HB.out))));(case side6=>exact Kd.V_mk HC0_3.out (Kd.F_below (Kd.C_F (Kd.heap_int .i64) HR0_3.out) (by repeat (first|(with_reducible first|exact HB.out|apply below_alloc|apply pw_below_drewN|apply below_drew1|refine below_set ?_ GE266.out|refine below_set ?_ GE267.out)|exact HB.out))));rintro e w13 ⟨rfl,hb⟩;refine ⟨_,rfl,?_⟩;have n0_:=Aside0.mk (blk_below (g:=gb266) (o:=.cells #[.slice A0_0 l0_0.length c0_0,.slice A0_1 l0_1.length c0_1,.slice A0_2 l0_2.length c0_2,.slice A0_3 l0_3.length c0_3] 29 (0,0)) (by exact BK266.out) hb);have n1_:=Aside0.mk (blk_below (g:=gb267) (o:=.cells #[.slice none 0 0,.slice none 0 0,.slice none 0 0,.slice none 0 0] 29 (0,0)) (by exact BK267.out) hb);have n2_:=Aside0.mk (below_step (by repeat (first|(with_reducible first|exact HB.out|apply below_alloc|apply pw_below_drewN|apply below_drew1|refine below_set ?_ GE266.out|refine below_set ?_ GE267.out)|exact HB.out)) hb);clear BK266;clear BK267;clear HB;have BK266:=n0_;have BK267:=n1_;have HB:=n2_;clear n0_ n1_ n2_;(try clear hb);(try clear hb2);(try clear hk);(try clear hi);have hcz14_0 : w13.cell? ⟨gb266,0,none⟩ = some (.slice A0_0 l0_0.length c0_0):=(blk_cell BK266.out 0).trans rfl;have hcz14_1 : w13.cell? ⟨gb266,1,none⟩ = some (.slice A0_1 l0_1.length c0_1):=(blk_cell BK266.out 1).trans rfl;have hcz14_2 : w13.cell? ⟨gb266,2,none⟩ = some (.slice A0_2 l0_2.length c0_2):=(blk_cell BK266.out 2).trans rfl;have hcz14_3 : w13.cell? ⟨gb266,3,none⟩ = some (.slice A0_3 l0_3.length c0_3):=(blk_cell BK266.out 3).trans rfl;have hfz14_0:=blk_frozen BK266.out 0;have hfz14_1:=blk_frozen BK266.out 1;have hfz14_2:=blk_frozen BK266.out 2;have hfz14_3:=blk_frozen BK266.out 3)|(go_at_call 65;(with_reducible refine (spec_l5Live.calls k _ _ l0_0 _ _ l0_1 _ _ l0_2 _ _ l0_3 a1 true _ ?side1 ?side2 ?side3 ?side4 ?side5 ?side6 ?side7 ?side8 A9.out).mono ?_);(case side1=>repeat (first|exact (Kd.C_below HR0_0.out HB.out)|(with_reducible first|apply Kd.C_alloc|apply Kd.C_drewN|apply Kd.C_drew)));(case side2=>exact HC0_0.out);(case side3=>repeat (first|exact (Kd.C_below HR0_1.out HB.out)|(with_reducible first|apply Kd.C_alloc|apply Kd.C_drewN|apply Kd.C_drew)));(case side4=>exact HC0_1.out);(case side5=>repeat (first|exact (Kd.C_below HR0_2.out HB.out)|(with_reducible first|apply Kd.C_alloc|apply Kd.C_drewN|apply Kd.C_drew)));(case side6=>exact HC0_2.out);(case side7=>repeat (first|exact (Kd.C_below HR0_3.out HB.out)|(with_reducible first|apply Kd.C_alloc|apply Kd.C_drewN|apply Kd.C_drew)));(case side8=>exact HC0_3.out);rintro e w15 ⟨rfl,hb⟩;have n0_:=Aside0.mk (blk_below (g:=gb266) (o:=.cells #[.slice A0_0 l0_0.length c0_0,.slice A0_1 l0_1.length c0_1,.slice A0_2 l0_2.length c0_2,.slice A0_3 l0_3.length c0_3] 29 (0,0)) (by exact BK266.out) hb);have n1_:=Aside0.mk (blk_below (g:=gb267) (o:=.cells #[.slice none 0 0,.slice none 0 0,.slice none 0 0,.slice none 0 0] 29 (0,0)) (by exact BK267.out) hb);have n2_:=Aside0.mk (below_step (by repeat (first|(with_reducible first|exact HB.out|apply below_alloc|apply pw_below_drewN|apply below_drew1|refine below_set ?_ GE266.out|refine below_set ?_ GE267.out)|exact HB.out)) hb);clear BK266;clear BK267;clear HB;have BK266:=n0_;have BK267:=n1_;have HB:=n2_;clear n0_ n1_ n2_;(try clear hb);(try clear hb2);(try clear hk);(try clear hi)))
    go_meet
    case rel=>exact ⟨_,(((l2.length : Int) != 128)),(by first|rfl|(simp;done)|(simp [*];done)),H',⟨by first|omega|exact Nat.le_refl _⟩,⟨by exact BK266.out⟩,⟨by exact BK267.out⟩,⟨by repeat (first|(with_reducible first|exact HB.out|apply below_alloc|apply pw_below_drewN|apply below_drew1|refine below_set ?_ GE266.out|refine below_set ?_ GE267.out)|exact HB.out)⟩⟩
   ·replace c10:=Bool.eq_false_iff.mpr c10
    subst c10
    have H1 : (spec_PutIn.j0 k a1 l2 true l0_0 l0_1 l0_2 l0_3) = some (r1,r2,r3,r4,r5):=by rw [if_neg (show ¬ (false = true) by decide)] at H;exact H
    clear H
    have H:=H1
    clear H1
    have H':=Aside0.mk H
    clear H
    have hnb16:=NB266_267.out
    have hnc16:=NB267_266.out
    have hcz17_0 : w6.cell? ⟨gb266,0,none⟩ = some (.slice A0_0 l0_0.length c0_0):=(blk_cell BK266.out 0).trans rfl
    have hcz17_1 : w6.cell? ⟨gb266,1,none⟩ = some (.slice A0_1 l0_1.length c0_1):=(blk_cell BK266.out 1).trans rfl
    have hcz17_2 : w6.cell? ⟨gb266,2,none⟩ = some (.slice A0_2 l0_2.length c0_2):=(blk_cell BK266.out 2).trans rfl
    have hcz17_3 : w6.cell? ⟨gb266,3,none⟩ = some (.slice A0_3 l0_3.length c0_3):=(blk_cell BK266.out 3).trans rfl
    have hfz17_0:=blk_frozen BK266.out 0
    have hfz17_1:=blk_frozen BK266.out 1
    have hfz17_2:=blk_frozen BK266.out 2
    have hfz17_3:=blk_frozen BK266.out 3
    go_wp2_with (first|((with_reducible refine gate_callee (f:=11) rfl ?_);refine goesL_ (some 9) rfl rfl Try.func11 (by kernel_rfl) rfl #[.agg #[.slice A0_0 l0_0.length c0_0,.slice A0_1 l0_1.length c0_1,.slice A0_2 l0_2.length c0_2,.slice A0_3 l0_3.length c0_3]] rfl (by (try simp only [List.map_toArray,List.map_cons,List.map_nil]);first|done|rfl|(simp only [List.length_drop,List.length_take];rfl)) ?_;(with_reducible refine (spec_GoodSpace.calls k _ _ l0_0 _ _ l0_1 (fun k_=>k_ < w.heap.size) _ _ l0_2 (fun k_=>k_ < w.heap.size) _ _ l0_3 true _ ?side1 ?side2 ?side3 ?side4 ?side5 ?side6 A7.out).mono ?_);(case side1=>repeat (first|exact (Kd.C_below HR0_0.out HB.out)|(with_reducible first|apply Kd.C_alloc|apply Kd.C_drewN|apply Kd.C_drew)));(case side2=>exact HC0_0.out);(case side3=>repeat (first|exact (Kd.C_below HR0_1.out HB.out)|(with_reducible first|apply Kd.C_alloc|apply Kd.C_drewN|apply Kd.C_drew)));(case side4=>exact HC0_1.out);(case side5=>exact Kd.V_mk HC0_2.out (Kd.F_below (Kd.C_F (Kd.heap_int .i64) HR0_2.out) (by repeat (first|(with_reducible first|exact HB.out|apply below_alloc|apply pw_below_drewN|apply below_drew1|refine below_set ?_ GE266.out|refine below_set ?_ GE267.out)|exact HB.out))));(case side6=>exact Kd.V_mk HC0_3.out (Kd.F_below (Kd.C_F (Kd.heap_int .i64) HR0_3.out) (by repeat (first|(with_reducible first|exact HB.out|apply below_alloc|apply pw_below_drewN|apply below_drew1|refine below_set ?_ GE266.out|refine below_set ?_ GE267.out)|exact HB.out))));rintro e w18 ⟨rfl,hb⟩;refine ⟨_,rfl,?_⟩;have n0_:=Aside0.mk (blk_below (g:=gb266) (o:=.cells #[.slice A0_0 l0_0.length c0_0,.slice A0_1 l0_1.length c0_1,.slice A0_2 l0_2.length c0_2,.slice A0_3 l0_3.length c0_3] 29 (0,0)) (by exact BK266.out) hb);have n1_:=Aside0.mk (blk_below (g:=gb267) (o:=.cells #[.slice none 0 0,.slice none 0 0,.slice none 0 0,.slice none 0 0] 29 (0,0)) (by exact BK267.out) hb);have n2_:=Aside0.mk (below_step (by repeat (first|(with_reducible first|exact HB.out|apply below_alloc|apply pw_below_drewN|apply below_drew1|refine below_set ?_ GE266.out|refine below_set ?_ GE267.out)|exact HB.out)) hb);clear BK266;clear BK267;clear HB;have BK266:=n0_;have BK267:=n1_;have HB:=n2_;clear n0_ n1_ n2_;(try clear hb);(try clear hb2);(try clear hk);(try clear hi);have hcz19_0 : w18.cell? ⟨gb266,0,none⟩ = some (.slice A0_0 l0_0.length c0_0):=(blk_cell BK266.out 0).trans rfl;have hcz19_1 : w18.cell? ⟨gb266,1,none⟩ = some (.slice A0_1 l0_1.length c0_1):=(blk_cell BK266.out 1).trans rfl;have hcz19_2 : w18.cell? ⟨gb266,2,none⟩ = some (.slice A0_2 l0_2.length c0_2):=(blk_cell BK266.out 2).trans rfl;have hcz19_3 : w18.cell? ⟨gb266,3,none⟩ = some (.slice A0_3 l0_3.length c0_3):=(blk_cell BK266.out 3).trans rfl;have hfz19_0:=blk_frozen BK266.out 0;have hfz19_1:=blk_frozen BK266.out 1;have hfz19_2:=blk_frozen BK266.out 2;have hfz19_3:=blk_frozen BK266.out 3)|(go_at_call 65;(with_reducible refine (spec_l5Live.calls k _ _ l0_0 _ _ l0_1 _ _ l0_2 _ _ l0_3 a1 false _ ?side1 ?side2 ?side3 ?side4 ?side5 ?side6 ?side7 ?side8 A9.out).mono ?_);(case side1=>repeat (first|exact (Kd.C_below HR0_0.out HB.out)|(with_reducible first|apply Kd.C_alloc|apply Kd.C_drewN|apply Kd.C_drew)));(case side2=>exact HC0_0.out);(case side3=>repeat (first|exact (Kd.C_below HR0_1.out HB.out)|(with_reducible first|apply Kd.C_alloc|apply Kd.C_drewN|apply Kd.C_drew)));(case side4=>exact HC0_1.out);(case side5=>repeat (first|exact (Kd.C_below HR0_2.out HB.out)|(with_reducible first|apply Kd.C_alloc|apply Kd.C_drewN|apply Kd.C_drew)));(case side6=>exact HC0_2.out);(case side7=>repeat (first|exact (Kd.C_below HR0_3.out HB.out)|(with_reducible first|apply Kd.C_alloc|apply Kd.C_drewN|apply Kd.C_drew)));(case side8=>exact HC0_3.out);rintro e w20 ⟨rfl,hb⟩;have n0_:=Aside0.mk (blk_below (g:=gb266) (o:=.cells #[.slice A0_0 l0_0.length c0_0,.slice A0_1 l0_1.length c0_1,.slice A0_2 l0_2.length c0_2,.slice A0_3 l0_3.length c0_3] 29 (0,0)) (by exact BK266.out) hb);have n1_:=Aside0.mk (blk_below (g:=gb267) (o:=.cells #[.slice none 0 0,.slice none 0 0,.slice none 0 0,.slice none 0 0] 29 (0,0)) (by exact BK267.out) hb);have n2_:=Aside0.mk (below_step (by repeat (first|(with_reducible first|exact HB.out|apply below_alloc|apply pw_below_drewN|apply below_drew1|refine below_set ?_ GE266.out|refine below_set ?_ GE267.out)|exact HB.out)) hb);clear BK266;clear BK267;clear HB;have BK266:=n0_;have BK267:=n1_;have HB:=n2_;clear n0_ n1_ n2_;(try clear hb);(try clear hb2);(try clear hk);(try clear hi)))
    go_meet
    case rel=>exact ⟨_,(true),(by first|rfl|(simp;done)|(simp [*];done)),H',⟨by first|omega|exact Nat.le_refl _⟩,⟨by exact BK266.out⟩,⟨by exact BK267.out⟩,⟨by repeat (first|(with_reducible first|exact HB.out|apply below_alloc|apply pw_below_drewN|apply below_drew1|refine below_set ?_ GE266.out|refine below_set ?_ GE267.out)|exact HB.out)⟩⟩
  ·replace c8:=Bool.eq_false_iff.mpr c8
   subst c8
   have H1 : (spec_PutIn.j0 k a1 l2 true l0_0 l0_1 l0_2 l0_3) = some (r1,r2,r3,r4,r5):=by rw [if_neg (show ¬ (false = true) by decide)] at H;exact H
   clear H
   have H:=H1
   clear H1
   have H':=Aside0.mk H
   clear H
   have hnb21:=NB266_267.out
   have hnc21:=NB267_266.out
   have hcz22_0 : w6.cell? ⟨gb266,0,none⟩ = some (.slice A0_0 l0_0.length c0_0):=(blk_cell BK266.out 0).trans rfl
   have hcz22_1 : w6.cell? ⟨gb266,1,none⟩ = some (.slice A0_1 l0_1.length c0_1):=(blk_cell BK266.out 1).trans rfl
   have hcz22_2 : w6.cell? ⟨gb266,2,none⟩ = some (.slice A0_2 l0_2.length c0_2):=(blk_cell BK266.out 2).trans rfl
   have hcz22_3 : w6.cell? ⟨gb266,3,none⟩ = some (.slice A0_3 l0_3.length c0_3):=(blk_cell BK266.out 3).trans rfl
   have hfz22_0:=blk_frozen BK266.out 0
   have hfz22_1:=blk_frozen BK266.out 1
   have hfz22_2:=blk_frozen BK266.out 2
   have hfz22_3:=blk_frozen BK266.out 3
   go_wp2_with (first|((with_reducible refine gate_callee (f:=11) rfl ?_);refine goesL_ (some 9) rfl rfl Try.func11 (by kernel_rfl) rfl #[.agg #[.slice A0_0 l0_0.length c0_0,.slice A0_1 l0_1.length c0_1,.slice A0_2 l0_2.length c0_2,.slice A0_3 l0_3.length c0_3]] rfl (by (try simp only [List.map_toArray,List.map_cons,List.map_nil]);first|done|rfl|(simp only [List.length_drop,List.length_take];rfl)) ?_;(with_reducible refine (spec_GoodSpace.calls k _ _ l0_0 _ _ l0_1 (fun k_=>k_ < w.heap.size) _ _ l0_2 (fun k_=>k_ < w.heap.size) _ _ l0_3 false _ ?side1 ?side2 ?side3 ?side4 ?side5 ?side6 A7.out).mono ?_);(case side1=>repeat (first|exact (Kd.C_below HR0_0.out HB.out)|(with_reducible first|apply Kd.C_alloc|apply Kd.C_drewN|apply Kd.C_drew)));(case side2=>exact HC0_0.out);(case side3=>repeat (first|exact (Kd.C_below HR0_1.out HB.out)|(with_reducible first|apply Kd.C_alloc|apply Kd.C_drewN|apply Kd.C_drew)));(case side4=>exact HC0_1.out);(case side5=>exact Kd.V_mk HC0_2.out (Kd.F_below (Kd.C_F (Kd.heap_int .i64) HR0_2.out) (by repeat (first|(with_reducible first|exact HB.out|apply below_alloc|apply pw_below_drewN|apply below_drew1|refine below_set ?_ GE266.out|refine below_set ?_ GE267.out)|exact HB.out))));(case side6=>exact Kd.V_mk HC0_3.out (Kd.F_below (Kd.C_F (Kd.heap_int .i64) HR0_3.out) (by repeat (first|(with_reducible first|exact HB.out|apply below_alloc|apply pw_below_drewN|apply below_drew1|refine below_set ?_ GE266.out|refine below_set ?_ GE267.out)|exact HB.out))));rintro e w23 ⟨rfl,hb⟩;refine ⟨_,rfl,?_⟩;have n0_:=Aside0.mk (blk_below (g:=gb266) (o:=.cells #[.slice A0_0 l0_0.length c0_0,.slice A0_1 l0_1.length c0_1,.slice A0_2 l0_2.length c0_2,.slice A0_3 l0_3.length c0_3] 29 (0,0)) (by exact BK266.out) hb);have n1_:=Aside0.mk (blk_below (g:=gb267) (o:=.cells #[.slice none 0 0,.slice none 0 0,.slice none 0 0,.slice none 0 0] 29 (0,0)) (by exact BK267.out) hb);have n2_:=Aside0.mk (below_step (by repeat (first|(with_reducible first|exact HB.out|apply below_alloc|apply pw_below_drewN|apply below_drew1|refine below_set ?_ GE266.out|refine below_set ?_ GE267.out)|exact HB.out)) hb);clear BK266;clear BK267;clear HB;have BK266:=n0_;have BK267:=n1_;have HB:=n2_;clear n0_ n1_ n2_;(try clear hb);(try clear hb2);(try clear hk);(try clear hi)))
   go_meet
   case rel=>exact ⟨_,(true),(by first|rfl|(simp;done)|(simp [*];done)),H',⟨by first|omega|exact Nat.le_refl _⟩,⟨by exact BK266.out⟩,⟨by exact BK267.out⟩,⟨by repeat (first|(with_reducible first|exact HB.out|apply below_alloc|apply pw_below_drewN|apply below_drew1|refine below_set ?_ GE266.out|refine below_set ?_ GE267.out)|exact HB.out)⟩⟩
 case rest =>
  clear HC4
  try clear c1;try clear c2;try clear p2;try clear c3;try clear c8;try clear c10;try clear c11;try clear c16;try clear c21;try clear hcz12_0;try clear hcz12_1;try clear hcz12_2;try clear hcz12_3;try clear hcz14_0;try clear hcz14_1;try clear hcz14_2;try clear hcz14_3;try clear hcz17_0;try clear hcz17_1;try clear hcz17_2;try clear hcz17_3;try clear hcz19_0;try clear hcz19_1;try clear hcz19_2;try clear hcz19_3;try clear hcz22_0;try clear hcz22_1;try clear hcz22_2;try clear hcz22_3;try clear hfz12_0;try clear hfz12_1;try clear hfz12_2;try clear hfz12_3;try clear hfz14_0;try clear hfz14_1;try clear hfz14_2;try clear hfz14_3;try clear hfz17_0;try clear hfz17_1;try clear hfz17_2;try clear hfz17_3;try clear hfz19_0;try clear hfz19_1;try clear hfz19_2;try clear hfz19_3;try clear hfz22_0;try clear hfz22_1;try clear hfz22_2;try clear hfz22_3
  obtain ⟨kq,x21_3,rfl,HA,HJ3,BK266,BK267,HB⟩:=hcut
  cases kq with
  | zero=>exact absurd HA.out (by simp [spec_PutIn.j0])
  | succ kj3 =>
   have H:=HA.out
   clear HA
   simp only [spec_PutIn.j0] at H
   by_cases c24 : x21_3 = true
   ·subst c24
    have H1 : (some (([] : List (List Int)),([] : List Int),([] : List Int),([] : List Int),false)) = some (r1,r2,r3,r4,r5):=by rw [if_pos rfl] at H;exact H
    clear H
    have H:=H1
    clear H1
    simp only [Option.some.injEq,Prod.mk.injEq] at H
    obtain ⟨rfl,rfl,rfl,rfl,rfl⟩:=H
    have hnb25:=NB267_266.out
    have hnc25:=NB266_267.out
    have hcz26_0 : wc.cell? ⟨gb267,0,none⟩ = some (.slice none 0 0):=(blk_cell BK267.out 0).trans rfl
    have hcz26_1 : wc.cell? ⟨gb267,1,none⟩ = some (.slice none 0 0):=(blk_cell BK267.out 1).trans rfl
    have hcz26_2 : wc.cell? ⟨gb267,2,none⟩ = some (.slice none 0 0):=(blk_cell BK267.out 2).trans rfl
    have hcz26_3 : wc.cell? ⟨gb267,3,none⟩ = some (.slice none 0 0):=(blk_cell BK267.out 3).trans rfl
    have hfz26_0:=blk_frozen BK267.out 0
    have hfz26_1:=blk_frozen BK267.out 1
    have hfz26_2:=blk_frozen BK267.out 2
    have hfz26_3:=blk_frozen BK267.out 3
    go_wp2
    refine bodyPost_ret (results_ct rfl _ _ gb267 29 #[.slice none 0 0,.slice none 0 0,.slice none 0 0,.slice none 0 0] (0,0) _ rfl (by refine blk_put (cs:=#[.slice none 0 0,.slice none 0 0,.slice none 0 0,.slice none 0 0]) ?_ 3 _ rfl;refine blk_put (cs:=#[.slice none 0 0,.slice none 0 0,.slice none 0 0,.slice none 0 0]) ?_ 2 _ rfl;refine blk_put (cs:=#[.slice none 0 0,.slice none 0 0,.slice none 0 0,.slice none 0 0]) ?_ 1 _ rfl;refine blk_put (cs:=#[.slice none 0 0,.slice none 0 0,.slice none 0 0,.slice none 0 0]) ?_ 0 _ rfl;exact BK267.out) Try.underlying29 rfl (by kernel_rfl)) rfl ?_
    exact ⟨_,_,_,_,by first|rfl|(simp [*,errW_none,errW_some] <;> rfl),by first|exact Kd.S_nil _ _ _ _ _|exact Kd.N_nil _ _ _ _ _|exact Kd.V_nil _ _ _ _ _|exact Kd.Q_nil _ _ _ _ _|exact Kd.R_nil _ _ _ _ _,by first|exact Kd.R_nil _ _ _ _ _|exact Kd.N_nil _ _ _ _ _|exact Kd.V_nil _ _ _ _ _|exact Kd.Q_nil _ _ _ _ _|exact Kd.S_nil _ _ _ _ _,by first|exact Kd.R_nil _ _ _ _ _|exact Kd.N_nil _ _ _ _ _|exact Kd.V_nil _ _ _ _ _|exact Kd.Q_nil _ _ _ _ _|exact Kd.S_nil _ _ _ _ _,by first|exact Kd.R_nil _ _ _ _ _|exact Kd.N_nil _ _ _ _ _|exact Kd.V_nil _ _ _ _ _|exact Kd.Q_nil _ _ _ _ _|exact Kd.S_nil _ _ _ _ _,by repeat (first|(with_reducible first|exact HB.out|apply below_alloc|apply pw_below_drewN|apply below_drew1|refine below_set ?_ GE266.out|refine below_set ?_ GE267.out)|exact HB.out)⟩
   ·replace c24:=Bool.eq_false_iff.mpr c24
    subst c24
    have H1 : ((spec_l5Own.f kj3 l0_0 l0_1 l0_2 l0_3).bind fun bt270=>((spec_l5Lay.f kj3 bt270.1 bt270.2.1 bt270.2.2.1 bt270.2.2.2 a1 l2).bind fun bt282=>(some (bt282.1,bt282.2.1,bt282.2.2.1,bt282.2.2.2,true)))) = some (r1,r2,r3,r4,r5):=by rw [if_neg (show ¬ (false = true) by decide)] at H;exact H
    clear H
    have H:=H1
    clear H1
    replace H:=Option.bind_eq_some_iff.mp H
    obtain ⟨⟨t270,t273,t276,t279⟩,A270,H⟩:=H
    replace H : ((spec_l5Lay.f kj3 t270 t273 t276 t279 a1 l2).bind fun bt282=>(some (bt282.1,bt282.2.1,bt282.2.2.1,bt282.2.2.2,true))) = some (r1,r2,r3,r4,r5):=H
    have A27:=Aside0.mk A270
    clear A270
    replace H:=Option.bind_eq_some_iff.mp H
    obtain ⟨⟨t282,t285,t288,t291⟩,A280,H⟩:=H
    replace H : (some (t282,t285,t288,t291,true)) = some (r1,r2,r3,r4,r5):=H
    have A28:=Aside0.mk A280
    clear A280
    simp only [Option.some.injEq,Prod.mk.injEq] at H
    obtain ⟨rfl,rfl,rfl,rfl,rfl⟩:=H
    have hnb29:=NB266_267.out
    have hnc29:=NB267_266.out
    have hcz30_0 : wc.cell? ⟨gb266,0,none⟩ = some (.slice A0_0 l0_0.length c0_0):=(blk_cell BK266.out 0).trans rfl
    have hcz30_1 : wc.cell? ⟨gb266,1,none⟩ = some (.slice A0_1 l0_1.length c0_1):=(blk_cell BK266.out 1).trans rfl
    have hcz30_2 : wc.cell? ⟨gb266,2,none⟩ = some (.slice A0_2 l0_2.length c0_2):=(blk_cell BK266.out 2).trans rfl
    have hcz30_3 : wc.cell? ⟨gb266,3,none⟩ = some (.slice A0_3 l0_3.length c0_3):=(blk_cell BK266.out 3).trans rfl
    have hfz30_0:=blk_frozen BK266.out 0
    have hfz30_1:=blk_frozen BK266.out 1
    have hfz30_2:=blk_frozen BK266.out 2
    have hfz30_3:=blk_frozen BK266.out 3
    go_wp2_with (first|((with_reducible refine gate_callee (f:=66) rfl ?_);refine goesL_ (some 24) rfl rfl Try.func66 (by kernel_rfl) rfl #[.agg #[.slice A0_0 l0_0.length c0_0,.slice A0_1 l0_1.length c0_1,.slice A0_2 l0_2.length c0_2,.slice A0_3 l0_3.length c0_3]] rfl (by (try simp only [List.map_toArray,List.map_cons,List.map_nil]);first|done|rfl|(simp only [List.length_drop,List.length_take];rfl)) ?_;(with_reducible refine (spec_l5Own.calls kj3 _ _ l0_0 _ _ l0_1 _ _ l0_2 _ _ l0_3 t270 t273 t276 t279 _ ?side1 ?side2 ?side3 ?side4 ?side5 ?side6 ?side7 ?side8 A27.out).mono ?_);(case side1=>repeat (first|exact (Kd.C_below HR0_0.out HB.out)|(with_reducible first|apply Kd.C_alloc|apply Kd.C_drewN|apply Kd.C_drew)));(case side2=>exact HC0_0.out);(case side3=>repeat (first|exact (Kd.C_below HR0_1.out HB.out)|(with_reducible first|apply Kd.C_alloc|apply Kd.C_drewN|apply Kd.C_drew)));(case side4=>exact HC0_1.out);(case side5=>repeat (first|exact (Kd.C_below HR0_2.out HB.out)|(with_reducible first|apply Kd.C_alloc|apply Kd.C_drewN|apply Kd.C_drew)));(case side6=>exact HC0_2.out);(case side7=>repeat (first|exact (Kd.C_below HR0_3.out HB.out)|(with_reducible first|apply Kd.C_alloc|apply Kd.C_drewN|apply Kd.C_drew)));(case side8=>exact HC0_3.out);rintro e w31 ⟨v271,v274,v277,v280,rfl,ho0,ho1,ho2,ho3,hb⟩;refine ⟨_,rfl,?_⟩;have n0_:=Aside0.mk (Kd.S_lower ho0 (below_size (by repeat (first|(with_reducible first|exact HB.out|apply below_alloc|apply pw_below_drewN|apply below_drew1|refine below_set ?_ GE266.out|refine below_set ?_ GE267.out)|exact HB.out))));have n1_:=Aside0.mk (Kd.R_lower ho1 (below_size (by repeat (first|(with_reducible first|exact HB.out|apply below_alloc|apply pw_below_drewN|apply below_drew1|refine below_set ?_ GE266.out|refine below_set ?_ GE267.out)|exact HB.out))));have n2_:=Aside0.mk (Kd.R_lower ho2 (below_size (by repeat (first|(with_reducible first|exact HB.out|apply below_alloc|apply pw_below_drewN|apply below_drew1|refine below_set ?_ GE266.out|refine below_set ?_ GE267.out)|exact HB.out))));have n3_:=Aside0.mk (Kd.R_lower ho3 (below_size (by repeat (first|(with_reducible first|exact HB.out|apply below_alloc|apply pw_below_drewN|apply below_drew1|refine below_set ?_ GE266.out|refine below_set ?_ GE267.out)|exact HB.out))));have n4_:=Aside0.mk (blk_below (g:=gb266) (o:=.cells #[.slice A0_0 l0_0.length c0_0,.slice A0_1 l0_1.length c0_1,.slice A0_2 l0_2.length c0_2,.slice A0_3 l0_3.length c0_3] 29 (0,0)) (by exact BK266.out) hb);have n5_:=Aside0.mk (blk_below (g:=gb267) (o:=.cells #[.slice none 0 0,.slice none 0 0,.slice none 0 0,.slice none 0 0] 29 (0,0)) (by exact BK267.out) hb);have n6_:=Aside0.mk (below_step (by repeat (first|(with_reducible first|exact HB.out|apply below_alloc|apply pw_below_drewN|apply below_drew1|refine below_set ?_ GE266.out|refine below_set ?_ GE267.out)|exact HB.out)) hb);clear BK266;clear BK267;clear HB;have HO272:=n0_;have HO275:=n1_;have HO278:=n2_;have HO281:=n3_;have BK266:=n4_;have BK267:=n5_;have HB:=n6_;clear n0_ n1_ n2_ n3_ n4_ n5_ n6_;(try clear hb);(try clear hb2);(try clear hk);(try clear hi);(try clear ho0);(try clear ho1);(try clear ho2);(try clear ho3);obtain ⟨Ao32,co32,eo32⟩:=Kd.S_slice HO272.out;subst eo32;have hcz33_0 : w31.cell? ⟨gb266,0,none⟩ = some (.slice A0_0 l0_0.length c0_0):=(blk_cell BK266.out 0).trans rfl;have hcz33_1 : w31.cell? ⟨gb266,1,none⟩ = some (.slice A0_1 l0_1.length c0_1):=(blk_cell BK266.out 1).trans rfl;have hcz33_2 : w31.cell? ⟨gb266,2,none⟩ = some (.slice A0_2 l0_2.length c0_2):=(blk_cell BK266.out 2).trans rfl;have hcz33_3 : w31.cell? ⟨gb266,3,none⟩ = some (.slice A0_3 l0_3.length c0_3):=(blk_cell BK266.out 3).trans rfl;have hfz33_0:=blk_frozen BK266.out 0;have hfz33_1:=blk_frozen BK266.out 1;have hfz33_2:=blk_frozen BK266.out 2;have hfz33_3:=blk_frozen BK266.out 3;obtain ⟨Ao34,co34,eo34⟩:=Kd.R_slice HO275.out;subst eo34;obtain ⟨Ao35,co35,eo35⟩:=Kd.R_slice HO278.out;subst eo35;obtain ⟨Ao36,co36,eo36⟩:=Kd.R_slice HO281.out;subst eo36)|((with_reducible refine gate_store (t:=29) (p:=3) rfl ?_);refine store_event (t:=29) (p:=3) (v:=?vo_w37) (w1:=((((w31.setCell ⟨gb266,0,none⟩ (.slice Ao32 t270.length co32)).setCell ⟨gb266,1,none⟩ (.slice Ao34 t273.length co34)).setCell ⟨gb266,2,none⟩ (.slice Ao35 t276.length co35)).setCell ⟨gb266,3,none⟩ (.slice Ao36 t279.length co36))) ?hg ?ho ?hn ?hr ?_;(case ho=>rfl);(case hg=>rfl);(case hn=>rfl);(case hr=>first|(go_simp;done)|(go_simp;rfl));intro w37 hw;have n0_ : Aside0 (Kd.S (Kd.slice 5 (Kd.int .u8)) 23 w37 w.heap.size (fun k_=>some k_ ≠ (.slice Ao34 t273.length co34 : Value).ownBlock) (.slice Ao32 t270.length co32) t270):=⟨(by rw [hw];exact (by exact Kd.S_mono (Kd.S_far (p:=⟨gb266,3,none⟩) (Kd.S_far (p:=⟨gb266,2,none⟩) (Kd.S_far (p:=⟨gb266,1,none⟩) (Kd.S_far (p:=⟨gb266,0,none⟩) (Kd.S_types HO272.out BK266.out (by decide)) (fun _ hk=>hk.2) (.slice Ao32 t270.length co32)) (fun _ hk=>hk.2) (.slice Ao34 t273.length co34)) (fun _ hk=>hk.2) (.slice Ao35 t276.length co35)) (fun _ hk=>hk.2) (.slice Ao36 t279.length co36)) (fun _ hk=>hk.1)))⟩;have n1_ : Aside0 (Kd.R (Kd.int .u8) 5 w37 w.heap.size (fun _=>True) (.slice Ao34 t273.length co34) t273):=⟨(by rw [hw];exact (by exact Kd.R_mono (Kd.R_far (p:=⟨gb266,3,none⟩) (Kd.R_far (p:=⟨gb266,2,none⟩) (Kd.R_far (p:=⟨gb266,1,none⟩) (Kd.R_far (p:=⟨gb266,0,none⟩) (Kd.R_types HO275.out BK266.out (by decide)) (fun _ hk=>hk.2) (.slice Ao32 t270.length co32)) (fun _ hk=>hk.2) (.slice Ao34 t273.length co34)) (fun _ hk=>hk.2) (.slice Ao35 t276.length co35)) (fun _ hk=>hk.2) (.slice Ao36 t279.length co36)) (fun _ hk=>trivial)))⟩;have n2_ : Aside0 (Kd.R (Kd.int .i64) 3 w37 w.heap.size (fun k_=>some k_ ≠ (.slice Ao36 t279.length co36 : Value).ownBlock) (.slice Ao35 t276.length co35) t276):=⟨(by rw [hw];exact (by exact Kd.R_mono (Kd.R_far (p:=⟨gb266,3,none⟩) (Kd.R_far (p:=⟨gb266,2,none⟩) (Kd.R_far (p:=⟨gb266,1,none⟩) (Kd.R_far (p:=⟨gb266,0,none⟩) (Kd.R_types HO278.out BK266.out (by decide)) (fun _ hk=>hk.2) (.slice Ao32 t270.length co32)) (fun _ hk=>hk.2) (.slice Ao34 t273.length co34)) (fun _ hk=>hk.2) (.slice Ao35 t276.length co35)) (fun _ hk=>hk.2) (.slice Ao36 t279.length co36)) (fun _ hk=>hk.1)))⟩;have n3_ : Aside0 (Kd.R (Kd.int .i64) 3 w37 w.heap.size (fun k_=>some k_ ≠ (.slice Ao35 t276.length co35 : Value).ownBlock) (.slice Ao36 t279.length co36) t279):=⟨(by rw [hw];exact (by exact Kd.R_mono (Kd.R_far (p:=⟨gb266,3,none⟩) (Kd.R_far (p:=⟨gb266,2,none⟩) (Kd.R_far (p:=⟨gb266,1,none⟩) (Kd.R_far (p:=⟨gb266,0,none⟩) (Kd.R_types HO281.out BK266.out (by decide)) (fun _ hk=>hk.2) (.slice Ao32 t270.length co32)) (fun _ hk=>hk.2) (.slice Ao34 t273.length co34)) (fun _ hk=>hk.2) (.slice Ao35 t276.length co35)) (fun _ hk=>hk.2) (.slice Ao36 t279.length co36)) (fun _ hk=>hk.1)))⟩;have n4_ : Aside0 (w37.heap[gb266]? = some (.cells #[.slice Ao32 t270.length co32,.slice Ao34 t273.length co34,.slice Ao35 t276.length co35,.slice Ao36 t279.length co36] 29 (0,0))):=⟨(by rw [hw];exact (by refine blk_put (cs:=#[.slice Ao32 t270.length co32,.slice Ao34 t273.length co34,.slice Ao35 t276.length co35,.slice A0_3 l0_3.length c0_3]) ?_ 3 _ rfl;refine blk_put (cs:=#[.slice Ao32 t270.length co32,.slice Ao34 t273.length co34,.slice A0_2 l0_2.length c0_2,.slice A0_3 l0_3.length c0_3]) ?_ 2 _ rfl;refine blk_put (cs:=#[.slice Ao32 t270.length co32,.slice A0_1 l0_1.length c0_1,.slice A0_2 l0_2.length c0_2,.slice A0_3 l0_3.length c0_3]) ?_ 1 _ rfl;refine blk_put (cs:=#[.slice A0_0 l0_0.length c0_0,.slice A0_1 l0_1.length c0_1,.slice A0_2 l0_2.length c0_2,.slice A0_3 l0_3.length c0_3]) ?_ 0 _ rfl;exact BK266.out))⟩;have n5_ : Aside0 (w37.heap[gb267]? = some (.cells #[.slice none 0 0,.slice none 0 0,.slice none 0 0,.slice none 0 0] 29 (0,0))):=⟨(by rw [hw];exact (by refine blk_far ?_ NB267_266.out _;refine blk_far ?_ NB267_266.out _;refine blk_far ?_ NB267_266.out _;refine blk_far ?_ NB267_266.out _;exact BK267.out))⟩;have n6_ : Aside0 (Below w.heap.size w w37):=⟨(by rw [hw];exact (by repeat (first|(with_reducible first|exact HB.out|apply below_alloc|apply pw_below_drewN|apply below_drew1|refine below_set ?_ GE266.out|refine below_set ?_ GE267.out)|exact HB.out)))⟩;clear hw;clear HO272;clear HO275;clear HO278;clear HO281;clear BK266;clear BK267;clear HB;have HO272:=n0_;have HO275:=n1_;have HO278:=n2_;have HO281:=n3_;have BK266:=n4_;have BK267:=n5_;have HB:=n6_;clear n0_ n1_ n2_ n3_ n4_ n5_ n6_)|((with_reducible refine gate_callee (f:=67) rfl ?_);refine goesL_ (some 27) rfl rfl Try.func67 (by kernel_rfl) rfl #[.pointer (some ⟨gb266,0,none⟩),.int .i64 a1,.slice A2 l2.length c2] rfl (by (try simp only [List.map_toArray,List.map_cons,List.map_nil]);first|done|rfl|(simp only [List.length_drop,List.length_take];rfl)) ?_;(with_reducible refine (spec_l5Lay.calls kj3 gb266 (SB_ (Kd.slice 5 (Kd.int .u8)) 23 w37 w.heap.size (fun k_=>some k_ ≠ (.slice Ao34 t273.length co34 : Value).ownBlock)) (.slice Ao32 t270.length co32) t270 (fun k_=>some k_ = (.slice Ao34 t273.length co34 : Value).ownBlock) (.slice Ao34 t273.length co34) t273 (fun k_=>some k_ = (.slice Ao35 t276.length co35 : Value).ownBlock) (.slice Ao35 t276.length co35) t276 (fun k_=>some k_ = (.slice Ao36 t279.length co36 : Value).ownBlock) (.slice Ao36 t279.length co36) t279 a1 _ _ l2 t282 t285 t288 t291 w _ ?side1 ?side2 ?side3 ?side4 ?side5 ?side6 ?side7 ?side8 ?side9 ?side10 ?side11 ?side12 A28.out).mono ?_);(case side1=>repeat (first|(with_reducible first|exact HB.out|apply below_alloc|apply pw_below_drewN|apply below_drew1|refine below_set ?_ GE266.out|refine below_set ?_ GE267.out)|exact HB.out));(case side2=>exact by exact BK266.out);(case side3=>exact GE266.out);(case side4=>exact SB_own HO272.out);(case side5=>exact fun k_ h_ e_=>(h_.1) e_);(case side6=>exact Kd.R_tight rfl HO275.out);(case side7=>exact Kd.R_tight rfl HO278.out);(case side8=>exact fun k_ e_=>(HO278.out.1 k_ e_.symm));(case side9=>exact Kd.R_tight rfl HO281.out);(case side10=>exact fun k_ e_=>(HO281.out.1 k_ e_.symm));(case side11=>exact Kd.C_kept_came (Kd.heap_int .u8) HR2.out (by repeat (first|(with_reducible first|exact HB.out|apply below_alloc|apply pw_below_drewN|apply below_drew1|refine below_set ?_ GE266.out|refine below_set ?_ GE267.out)|exact HB.out)) (fun k_ hs_=>Or.elim hs_ (fun hs_=>Or.elim hs_ (fun e_=>(fun e_=>e_.2.1) e_) (fun e_=>Or.elim e_ (fun e_=>(fun e_=>Kd.R_base HO275.out k_ e_.symm) e_) (fun e_=>Or.elim e_ (fun e_=>(fun e_=>Kd.R_base HO278.out k_ e_.symm) e_) (fun e_=>(fun e_=>Kd.R_base HO281.out k_ e_.symm) e_)))) (fun e_=>(by rw [e_];exact GE266.out))));(case side12=>exact HC2.out);rintro e w38 ⟨v283,v286,v289,v292,rfl,ho0,ho1,ho2,ho3,hbx,hb,hkp⟩;refine ⟨_,rfl,?_⟩;have n0_:=Aside0.mk (hbx);have n1_:=Aside0.mk (blk_kept (g:=gb267) (o:=.cells #[.slice none 0 0,.slice none 0 0,.slice none 0 0,.slice none 0 0] 29 (0,0)) (by exact BK267.out) hkp (fun hs_=>Or.elim hs_ (fun hs_=>Or.elim hs_ (fun e_=>(fun e_=>(blk_SB BK267.out (by decide)) e_) e_) (fun e_=>Or.elim e_ (fun e_=>(fun e_=>(Kd.R_ne HO275.out BK267.out (by decide)) e_) e_) (fun e_=>Or.elim e_ (fun e_=>(fun e_=>(Kd.R_ne HO278.out BK267.out (by decide)) e_) e_) (fun e_=>(fun e_=>(Kd.R_ne HO281.out BK267.out (by decide)) e_) e_)))) (fun e_=>NB267_266.out e_)));have n2_:=Aside0.mk (Kd.S_mono (ok':=fun k_=>some k_ ≠ (v286 : Value).ownBlock) ho0 (fun k_ hk_=>hk_.2));have n3_:=Aside0.mk (Kd.R_mono (ok':=fun k_=>True) ho1 (fun k_ hk_=>trivial));have n4_:=Aside0.mk (Kd.R_mono (ok':=fun k_=>some k_ ≠ (v292 : Value).ownBlock) ho2 (fun k_ hk_=>hk_.2));have n5_:=Aside0.mk (Kd.R_mono (ok':=fun k_=>some k_ ≠ (v289 : Value).ownBlock) ho3 (fun k_ hk_=>hk_.2));have n6_:=Aside0.mk (hb);clear BK266;clear BK267;clear HB;clear HO272;clear HO275;clear HO278;clear HO281;have BK266:=n0_;have BK267:=n1_;have HO284:=n2_;have HO287:=n3_;have HO290:=n4_;have HO293:=n5_;have HB:=n6_;clear n0_ n1_ n2_ n3_ n4_ n5_ n6_;(try clear hb);(try clear hkp);(try clear hbx);(try clear ho0);(try clear ho1);(try clear ho2);(try clear ho3);have hcz39_0 : w38.cell? ⟨gb266,0,none⟩ = some (v283):=(blk_cell BK266.out 0).trans rfl;have hcz39_1 : w38.cell? ⟨gb266,1,none⟩ = some (v286):=(blk_cell BK266.out 1).trans rfl;have hcz39_2 : w38.cell? ⟨gb266,2,none⟩ = some (v289):=(blk_cell BK266.out 2).trans rfl;have hcz39_3 : w38.cell? ⟨gb266,3,none⟩ = some (v292):=(blk_cell BK266.out 3).trans rfl;have hfz39_0:=blk_frozen BK266.out 0;have hfz39_1:=blk_frozen BK266.out 1;have hfz39_2:=blk_frozen BK266.out 2;have hfz39_3:=blk_frozen BK266.out 3;obtain ⟨Ao40,co40,eo40⟩:=Kd.S_slice HO284.out;subst eo40;have hcz41_0 : w38.cell? ⟨gb267,0,none⟩ = some (.slice none 0 0):=(blk_cell BK267.out 0).trans rfl;have hcz41_1 : w38.cell? ⟨gb267,1,none⟩ = some (.slice none 0 0):=(blk_cell BK267.out 1).trans rfl;have hcz41_2 : w38.cell? ⟨gb267,2,none⟩ = some (.slice none 0 0):=(blk_cell BK267.out 2).trans rfl;have hcz41_3 : w38.cell? ⟨gb267,3,none⟩ = some (.slice none 0 0):=(blk_cell BK267.out 3).trans rfl;have hfz41_0:=blk_frozen BK267.out 0;have hfz41_1:=blk_frozen BK267.out 1;have hfz41_2:=blk_frozen BK267.out 2;have hfz41_3:=blk_frozen BK267.out 3;obtain ⟨Ao42,co42,eo42⟩:=Kd.R_slice HO287.out;subst eo42;obtain ⟨Ao43,co43,eo43⟩:=Kd.R_slice HO290.out;subst eo43;obtain ⟨Ao44,co44,eo44⟩:=Kd.R_slice HO293.out;subst eo44))
    refine bodyPost_ret (results_ct rfl _ _ gb267 29 #[.slice Ao40 t282.length co40,.slice Ao42 t285.length co42,.slice Ao43 t288.length co43,.slice Ao44 t291.length co44] (0,0) _ rfl (by refine blk_put (cs:=#[.slice Ao40 t282.length co40,.slice Ao42 t285.length co42,.slice Ao43 t288.length co43,.slice none 0 0]) ?_ 3 _ rfl;refine blk_put (cs:=#[.slice Ao40 t282.length co40,.slice Ao42 t285.length co42,.slice none 0 0,.slice none 0 0]) ?_ 2 _ rfl;refine blk_put (cs:=#[.slice Ao40 t282.length co40,.slice none 0 0,.slice none 0 0,.slice none 0 0]) ?_ 1 _ rfl;refine blk_put (cs:=#[.slice none 0 0,.slice none 0 0,.slice none 0 0,.slice none 0 0]) ?_ 0 _ rfl;exact BK267.out) Try.underlying29 rfl (by kernel_rfl)) rfl ?_
    exact ⟨_,_,_,_,by first|rfl|(simp [*,errW_none,errW_some] <;> rfl),by exact Kd.S_mono (Kd.S_far (p:=⟨gb267,3,none⟩) (Kd.S_far (p:=⟨gb267,2,none⟩) (Kd.S_far (p:=⟨gb267,1,none⟩) (Kd.S_far (p:=⟨gb267,0,none⟩) (Kd.S_types HO284.out BK267.out (by decide)) (fun _ hk=>hk.2) (.slice Ao40 t282.length co40)) (fun _ hk=>hk.2) (.slice Ao42 t285.length co42)) (fun _ hk=>hk.2) (.slice Ao43 t288.length co43)) (fun _ hk=>hk.2) (.slice Ao44 t291.length co44)) (fun _ hk=>hk.1),by exact Kd.R_mono (Kd.R_far (p:=⟨gb267,3,none⟩) (Kd.R_far (p:=⟨gb267,2,none⟩) (Kd.R_far (p:=⟨gb267,1,none⟩) (Kd.R_far (p:=⟨gb267,0,none⟩) (Kd.R_types HO287.out BK267.out (by decide)) (fun _ hk=>hk.2) (.slice Ao40 t282.length co40)) (fun _ hk=>hk.2) (.slice Ao42 t285.length co42)) (fun _ hk=>hk.2) (.slice Ao43 t288.length co43)) (fun _ hk=>hk.2) (.slice Ao44 t291.length co44)) (fun _ hk=>trivial),by exact Kd.R_mono (Kd.R_far (p:=⟨gb267,3,none⟩) (Kd.R_far (p:=⟨gb267,2,none⟩) (Kd.R_far (p:=⟨gb267,1,none⟩) (Kd.R_far (p:=⟨gb267,0,none⟩) (Kd.R_types HO290.out BK267.out (by decide)) (fun _ hk=>hk.2) (.slice Ao40 t282.length co40)) (fun _ hk=>hk.2) (.slice Ao42 t285.length co42)) (fun _ hk=>hk.2) (.slice Ao43 t288.length co43)) (fun _ hk=>hk.2) (.slice Ao44 t291.length co44)) (fun _ hk=>hk.1),by exact Kd.R_mono (Kd.R_far (p:=⟨gb267,3,none⟩) (Kd.R_far (p:=⟨gb267,2,none⟩) (Kd.R_far (p:=⟨gb267,1,none⟩) (Kd.R_far (p:=⟨gb267,0,none⟩) (Kd.R_types HO293.out BK267.out (by decide)) (fun _ hk=>hk.2) (.slice Ao40 t282.length co40)) (fun _ hk=>hk.2) (.slice Ao42 t285.length co42)) (fun _ hk=>hk.2) (.slice Ao43 t288.length co43)) (fun _ hk=>hk.2) (.slice Ao44 t291.length co44)) (fun _ hk=>hk.1),by repeat (first|(with_reducible first|exact HB.out|apply below_alloc|apply pw_below_drewN|apply below_drew1|refine below_set ?_ GE266.out|refine below_set ?_ GE267.out)|exact HB.out)⟩

/-! ### impl_within: function 76 -/
def impl_within.f (a0 : Int) (a1 : Int) (a2 : Int) : Option (Bool):=if a1 ≤ a0 then (some (decide (a0 ≤ a2))) else (some false)
set_option maxHeartbeats 8000000 in
set_option maxRecDepth 100000 in
theorem impl_within.calls (a0 : Int) (a1 : Int) (a2 : Int) (r : Bool) (w : World) (h : impl_within.f a0 a1 a2 = some r) :
  Calls Try.prog 76 #[.int .i64 a0,.int .i64 a1,.int .i64 a2] w fun e w'=>e = .returned (.bool r)∧Drawn0 w w':=by
 have H : (if a1 ≤ a0 then (some (decide (a0 ≤ a2))) else (some false)) = some r:=h
 clear h
 by_cases c4 : a1 ≤ a0
 ·rw [if_pos c4] at H
  have c4b0 : decide (a1 ≤ a0) = true:=decide_eq_true c4
  clear c4
  obtain rfl:=Option.some.inj H
  go_enter Try.func76,Try.ntmps76
  go_wp2
  go_ret
  exact ⟨by first|rfl|(simp;done)|(simp [*];done),by repeat (first|exact Drawn0.refl _|apply Drawn0.step)⟩
 ·rw [if_neg c4] at H
  have c4b0 : decide (a1 ≤ a0) = false:=decide_eq_false c4
  clear c4
  obtain rfl:=Option.some.inj H
  go_enter Try.func76,Try.ntmps76
  go_wp2
  go_ret
  exact ⟨by first|rfl|(simp;done)|(simp [*];done),by repeat (first|exact Drawn0.refl _|apply Drawn0.step)⟩

/-! ### impl_areBlocks_1: function 78 -/
def impl_areBlocks_1.f (l0 : List Int) : Option (Bool):=some ((l0.length : Int) != 128)
set_option maxHeartbeats 8000000 in
set_option maxRecDepth 100000 in
theorem impl_areBlocks_1.calls (A0 : Option Addr) (c0 : Nat) (l0 : List Int) (r : Bool) (w : World) (hr0 : Kd.C (Kd.int .u8) w A0 l0.length l0) (hc0 : l0.length ≤ c0) (h : impl_areBlocks_1.f l0 = some r) :
  Calls Try.prog 78 #[.slice A0 l0.length c0] w fun e w'=>e = .returned (.bool r)∧Drawn0 w w':=by
 have HR0:=Aside0.mk hr0
 have HC0:=Aside0.mk hc0
 clear hr0 hc0
 have H : (some ((l0.length : Int) != 128)) = some r:=h
 clear h
 obtain rfl:=Option.some.inj H
 go_enter Try.func78,Try.ntmps78
 go_wp2
 go_ret
 exact ⟨by first|rfl|(simp;done)|(simp [*];done),by repeat (first|exact Drawn0.refl _|apply Drawn0.step)⟩

/-! ### slices_IndexFunc_byte_byte: function 87 -/
def slices_IndexFunc_byte_byte.l0 : Nat → List (List Int) → Int → Int → Option (Int)
 | 0,_,_,_=>none
 | k + 1,x0,x7,x8=>if x8 < x7 then (if 0 ≤ x8 then (if x8 < (x0.length : Int) then ((impl_areBlocks_1.f (rd_L1 x0 x8)).bind fun t295=>(if t295 = true then (some x8) else (slices_IndexFunc_byte_byte.l0 k x0 x7 (wrap64 (x8 + 1))))) else (none)) else (none)) else (some (-1))
def slices_IndexFunc_byte_byte.f (k : Nat) (l0 : List (List Int)) (a1 : Unit) : Option (Int):=slices_IndexFunc_byte_byte.l0 k l0 (l0.length : Int) 0
theorem slices_IndexFunc_byte_byte.mono_l : ∀ k,(∀ y0 y1 y2,LeO (slices_IndexFunc_byte_byte.l0 k y0 y1 y2) (slices_IndexFunc_byte_byte.l0 (k + 1) y0 y1 y2))
 | 0=>fun _ _ _ r h=>by simp [slices_IndexFunc_byte_byte.l0] at h
 | k + 1=>by
  have ih0:=slices_IndexFunc_byte_byte.mono_l k
  ·intro y0 y1 y2
   unfold slices_IndexFunc_byte_byte.l0
   repeat' first
   | (with_reducible exact ih0 _ _ _)
   | (with_reducible exact LeO.refl _)
   | (with_reducible exact LeO.none _)
   | (with_reducible refine LeO.ite ?_ ?_)
   | (with_reducible refine LeO.bind ?_ (fun _=>?_))
   | exact ih0 _ _ _
   | exact LeO.none _
   | refine LeO.ite ?_ ?_
   | refine LeO.bind ?_ (fun _=>?_)
theorem slices_IndexFunc_byte_byte.mono : ∀ a0 a1 k,LeO (slices_IndexFunc_byte_byte.f k a0 a1) (slices_IndexFunc_byte_byte.f (k + 1) a0 a1):=by
 intro a0 a1 k
 have ih0:=slices_IndexFunc_byte_byte.mono_l k
 unfold slices_IndexFunc_byte_byte.f
 repeat' first
   | (with_reducible exact ih0 _ _ _)
   | (with_reducible exact LeO.refl _)
   | (with_reducible exact LeO.none _)
   | (with_reducible refine LeO.ite ?_ ?_)
   | (with_reducible refine LeO.bind ?_ (fun _=>?_))
   | exact ih0 _ _ _
   | exact LeO.none _
   | refine LeO.ite ?_ ?_
   | refine LeO.bind ?_ (fun _=>?_)
set_option maxHeartbeats 8000000 in
set_option maxRecDepth 100000 in
theorem slices_IndexFunc_byte_byte.calls (k : Nat) (A0 : Option Addr) (c0 : Nat) (l0 : List (List Int)) (a1 : Unit) (r : Int) (w : World) (hr0 : Kd.C (Kd.slice 5 (Kd.int .u8)) w A0 l0.length l0) (hc0 : l0.length ≤ c0) (h : slices_IndexFunc_byte_byte.f k l0 a1 = some r) :
  Calls Try.prog 87 #[.slice A0 l0.length c0,.func (.func 78) #[] #[]] w fun e w'=>e = .returned (.int .i64 r)∧Drawn0 w w':=by
 have HR0:=Aside0.mk hr0
 have HC0:=Aside0.mk hc0
 clear hr0 hc0
 have H : (slices_IndexFunc_byte_byte.l0 k l0 (l0.length : Int) 0) = some r:=h
 clear h
 have H':=Aside0.mk H
 clear H
 go_enter Try.func87,Try.ntmps87
 go_wp2
 go_loopg [8] k (fun kq v8 w'=>∃ (x8_1 : Int),v8 = .int .i64 x8_1∧Aside0 (slices_IndexFunc_byte_byte.l0 kq l0 (l0.length : Int) x8_1 = some r)∧Aside0 (kq ≤ k)∧Drawn0 w w')
 case atStart=>exact ⟨(0),(by first|rfl|(simp;done)|(simp [*];done)),H',⟨Nat.le_refl _⟩,by repeat (first|exact Drawn0.refl _|apply Drawn0.step)⟩
 case round =>
  clear H'
  try clear p2
  obtain ⟨x8_1,rfl,HA,HK1,⟨m1,rfl⟩⟩:=hrel
  cases gk with
  | zero=>exact absurd HA.out (by simp [slices_IndexFunc_byte_byte.l0])
  | succ k1 =>
   have H:=HA.out
   clear HA
   simp only [slices_IndexFunc_byte_byte.l0] at H
   by_cases c3 : x8_1 < (l0.length : Int)
   ·rw [if_pos c3] at H
    have c3b0 : decide (x8_1 < (l0.length : Int)) = true:=decide_eq_true c3
    clear c3
    by_cases c4 : 0 ≤ x8_1
    ·rw [if_pos c4] at H
     have c4b0 : decide (0 ≤ x8_1) = true:=decide_eq_true c4
     clear c4
     by_cases c5 : x8_1 < (l0.length : Int)
     ·rw [if_pos c5] at H
      have c5b0 : decide (x8_1 < (l0.length : Int)) = true:=decide_eq_true c5
      clear c5
      replace H:=Option.bind_eq_some_iff.mp H
      obtain ⟨t295,A60,H⟩:=H
      replace H : (if t295 = true then (some x8_1) else (slices_IndexFunc_byte_byte.l0 k1 l0 (l0.length : Int) (wrap64 (x8_1 + 1)))) = some r:=H
      have A6:=Aside0.mk A60
      clear A60
      by_cases c7 : t295 = true
      ·subst c7
       have H1 : (some x8_1) = some r:=by rw [if_pos rfl] at H;exact H
       clear H
       have H:=H1
       clear H1
       obtain rfl:=Option.some.inj H
       have p294 : 0 ≤ (x8_1 : Int):=of_decide_eq_true (by assumption)
       have q294 : x8_1 < (l0.length : Int):=of_decide_eq_true (by assumption)
       obtain ⟨ad294,A294_0,c294_0,e294,hx294_0,hl294_0,hi294_0⟩:=at_L1 HR0.out x8_1 p294 q294
       cases e294
       have HR294_0:=Aside0.mk hi294_0
       have HC294_0:=Aside0.mk hl294_0
       clear hi294_0 hl294_0
       replace p294:=eq_true p294
       replace q294:=eq_true q294
       go_wp2_with (first|((with_reducible refine gate_calleev (c:=.tmp 11) rfl ?_);refine goesLv_ (some 16) rfl rfl Try.func78 (by kernel_rfl) rfl #[.slice A294_0 (rd_L1 l0 x8_1).length c294_0] rfl (by first|rfl|(go_simp;done)) (by (try simp only [List.map_toArray,List.map_cons,List.map_nil]);first|done|rfl|(simp only [List.length_drop,List.length_take];rfl)) ?_;(with_reducible refine (impl_areBlocks_1.calls _ _ (rd_L1 l0 x8_1) true _ ?side1 ?side2 A6.out).mono ?_);(case side1=>repeat (first|exact HR294_0.out|(with_reducible first|apply Kd.C_alloc|apply Kd.C_drewN|apply Kd.C_drew)));(case side2=>exact HC294_0.out);rintro e w' ⟨rfl,⟨nd,rfl⟩⟩;refine ⟨_,rfl,?_⟩))
       go_ret
       exact ⟨by first|rfl|(simp;done)|(simp [*];done),by repeat (first|exact Drawn0.refl _|apply Drawn0.step)⟩
      ·replace c7:=Bool.eq_false_iff.mpr c7
       subst c7
       have H1 : (slices_IndexFunc_byte_byte.l0 k1 l0 (l0.length : Int) (wrap64 (x8_1 + 1))) = some r:=by rw [if_neg (show ¬ (false = true) by decide)] at H;exact H
       clear H
       have H:=H1
       clear H1
       have H':=Aside0.mk H
       clear H
       have p294 : 0 ≤ (x8_1 : Int):=of_decide_eq_true (by assumption)
       have q294 : x8_1 < (l0.length : Int):=of_decide_eq_true (by assumption)
       obtain ⟨ad294,A294_0,c294_0,e294,hx294_0,hl294_0,hi294_0⟩:=at_L1 HR0.out x8_1 p294 q294
       cases e294
       have HR294_0:=Aside0.mk hi294_0
       have HC294_0:=Aside0.mk hl294_0
       clear hi294_0 hl294_0
       replace p294:=eq_true p294
       replace q294:=eq_true q294
       go_wp2_with (first|((with_reducible refine gate_calleev (c:=.tmp 11) rfl ?_);refine goesLv_ (some 16) rfl rfl Try.func78 (by kernel_rfl) rfl #[.slice A294_0 (rd_L1 l0 x8_1).length c294_0] rfl (by first|rfl|(go_simp;done)) (by (try simp only [List.map_toArray,List.map_cons,List.map_nil]);first|done|rfl|(simp only [List.length_drop,List.length_take];rfl)) ?_;(with_reducible refine (impl_areBlocks_1.calls _ _ (rd_L1 l0 x8_1) false _ ?side1 ?side2 A6.out).mono ?_);(case side1=>repeat (first|exact HR294_0.out|(with_reducible first|apply Kd.C_alloc|apply Kd.C_drewN|apply Kd.C_drew)));(case side2=>exact HC294_0.out);rintro e w' ⟨rfl,⟨nd,rfl⟩⟩;refine ⟨_,rfl,?_⟩))
       go_roundg k1
       case measure=>have:=HK1.out;omega
       case rel=>exact ⟨(wrap64 (x8_1 + 1)),(by first|rfl|(simp;done)|(simp [*];done)),H',⟨by have:=HK1.out;omega⟩,by repeat (first|exact Drawn0.refl _|apply Drawn0.step)⟩
     ·rw [if_neg c5] at H
      exact absurd H (by simp)
    ·rw [if_neg c4] at H
     exact absurd H (by simp)
   ·rw [if_neg c3] at H
    have c3b0 : decide (x8_1 < (l0.length : Int)) = false:=decide_eq_false c3
    clear c3
    obtain rfl:=Option.some.inj H
    go_wp2
    go_ret
    exact ⟨by first|rfl|(simp;done)|(simp [*];done),by repeat (first|exact Drawn0.refl _|apply Drawn0.step)⟩

/-! ### slices_ContainsFunc_byte_byte: function 77 -/
def slices_ContainsFunc_byte_byte.f (k : Nat) (l0 : List (List Int)) (a1 : Unit) : Option (Bool):=(slices_IndexFunc_byte_byte.f k l0 a1).bind fun t296=>(some (decide (t296 ≥ 0)))
theorem slices_ContainsFunc_byte_byte.mono : ∀ a0 a1 k,LeO (slices_ContainsFunc_byte_byte.f k a0 a1) (slices_ContainsFunc_byte_byte.f (k + 1) a0 a1):=by
 intro a0 a1 k
 unfold slices_ContainsFunc_byte_byte.f
 repeat' first
   | (with_reducible exact slices_IndexFunc_byte_byte.mono _ _ _)
   | (with_reducible exact LeO.refl _)
   | (with_reducible exact LeO.none _)
   | (with_reducible refine LeO.ite ?_ ?_)
   | (with_reducible refine LeO.bind ?_ (fun _=>?_))
   | exact slices_IndexFunc_byte_byte.mono _ _ _
   | exact LeO.none _
   | refine LeO.ite ?_ ?_
   | refine LeO.bind ?_ (fun _=>?_)
set_option maxHeartbeats 8000000 in
set_option maxRecDepth 100000 in
theorem slices_ContainsFunc_byte_byte.calls (k : Nat) (A0 : Option Addr) (c0 : Nat) (l0 : List (List Int)) (a1 : Unit) (r : Bool) (w : World) (hr0 : Kd.C (Kd.slice 5 (Kd.int .u8)) w A0 l0.length l0) (hc0 : l0.length ≤ c0) (h : slices_ContainsFunc_byte_byte.f k l0 a1 = some r) :
  Calls Try.prog 77 #[.slice A0 l0.length c0,.func (.func 78) #[] #[]] w fun e w'=>e = .returned (.bool r)∧Drawn0 w w':=by
 have HR0:=Aside0.mk hr0
 have HC0:=Aside0.mk hc0
 clear hr0 hc0
 have H : ((slices_IndexFunc_byte_byte.f k l0 a1).bind fun t296=>(some (decide (t296 ≥ 0)))) = some r:=h
 clear h
 replace H:=Option.bind_eq_some_iff.mp H
 obtain ⟨t296,A30,H⟩:=H
 replace H : (some (decide (t296 ≥ 0))) = some r:=H
 have A3:=Aside0.mk A30
 clear A30
 obtain rfl:=Option.some.inj H
 go_enter Try.func77,Try.ntmps77
 go_wp2_with (first|((with_reducible refine gate_callee (f:=87) rfl ?_);refine goesL_ (some 7) rfl rfl Try.func87 (by kernel_rfl) rfl #[.slice A0 l0.length c0,.func (.func 78) #[] #[]] rfl (by (try simp only [List.map_toArray,List.map_cons,List.map_nil]);first|done|rfl|(simp only [List.length_drop,List.length_take];rfl)) ?_;(with_reducible refine (slices_IndexFunc_byte_byte.calls k _ _ l0 a1 t296 _ ?side1 ?side2 A3.out).mono ?_);(case side1=>repeat (first|exact HR0.out|(with_reducible first|apply Kd.C_alloc|apply Kd.C_drewN|apply Kd.C_drew)));(case side2=>exact HC0.out);rintro e w' ⟨rfl,⟨nd,rfl⟩⟩;refine ⟨_,rfl,?_⟩))
 go_ret
 exact ⟨by first|rfl|(simp;done)|(simp [*];done),by repeat (first|exact Drawn0.refl _|apply Drawn0.step)⟩

/-! ### impl_areBlocks: function 49 -/
def impl_areBlocks.f (k : Nat) (l0 : List (List Int)) : Option (Bool):=(impl_within.f (l0.length : Int) 40 160).bind fun t297=>(if t297 = true then ((slices_ContainsFunc_byte_byte.f k l0 ()).bind fun t298=>(some (!t298))) else (some false))
theorem impl_areBlocks.mono : ∀ a0 k,LeO (impl_areBlocks.f k a0) (impl_areBlocks.f (k + 1) a0):=by
 intro a0 k
 unfold impl_areBlocks.f
 repeat' first
   | (with_reducible exact slices_ContainsFunc_byte_byte.mono _ _ _)
   | (with_reducible exact LeO.refl _)
   | (with_reducible exact LeO.none _)
   | (with_reducible refine LeO.ite ?_ ?_)
   | (with_reducible refine LeO.bind ?_ (fun _=>?_))
   | exact slices_ContainsFunc_byte_byte.mono _ _ _
   | exact LeO.none _
   | refine LeO.ite ?_ ?_
   | refine LeO.bind ?_ (fun _=>?_)
set_option maxHeartbeats 8000000 in
set_option maxRecDepth 100000 in
theorem impl_areBlocks.calls (k : Nat) (A0 : Option Addr) (c0 : Nat) (l0 : List (List Int)) (r : Bool) (w : World) (hr0 : Kd.C (Kd.slice 5 (Kd.int .u8)) w A0 l0.length l0) (hc0 : l0.length ≤ c0) (h : impl_areBlocks.f k l0 = some r) :
  Calls Try.prog 49 #[.slice A0 l0.length c0] w fun e w'=>e = .returned (.bool r)∧Drawn0 w w':=by
 have HR0:=Aside0.mk hr0
 have HC0:=Aside0.mk hc0
 clear hr0 hc0
 have H : ((impl_within.f (l0.length : Int) 40 160).bind fun t297=>(if t297 = true then ((slices_ContainsFunc_byte_byte.f k l0 ()).bind fun t298=>(some (!t298))) else (some false))) = some r:=h
 clear h
 replace H:=Option.bind_eq_some_iff.mp H
 obtain ⟨t297,A20,H⟩:=H
 replace H : (if t297 = true then ((slices_ContainsFunc_byte_byte.f k l0 ()).bind fun t298=>(some (!t298))) else (some false)) = some r:=H
 have A2:=Aside0.mk A20
 clear A20
 by_cases c3 : t297 = true
 ·subst c3
  have H1 : ((slices_ContainsFunc_byte_byte.f k l0 ()).bind fun t298=>(some (!t298))) = some r:=by rw [if_pos rfl] at H;exact H
  clear H
  have H:=H1
  clear H1
  replace H:=Option.bind_eq_some_iff.mp H
  obtain ⟨t298,A40,H⟩:=H
  replace H : (some (!t298)) = some r:=H
  have A4:=Aside0.mk A40
  clear A40
  obtain rfl:=Option.some.inj H
  go_enter Try.func49,Try.ntmps49
  go_wp2_with (first|((with_reducible refine gate_callee (f:=76) rfl ?_);refine goesL_ (some 5) rfl rfl Try.func76 (by kernel_rfl) rfl #[.int .i64 (l0.length : Int),.int .i64 40,.int .i64 160] rfl (by (try simp only [List.map_toArray,List.map_cons,List.map_nil]);first|done|rfl|(simp only [List.length_drop,List.length_take];rfl)) ?_;(with_reducible refine (impl_within.calls (l0.length : Int) 40 160 true _ A2.out).mono ?_);rintro e w' ⟨rfl,⟨nd,rfl⟩⟩;refine ⟨_,rfl,?_⟩)|(go_at_call 77;(with_reducible refine (slices_ContainsFunc_byte_byte.calls k _ _ l0 () t298 _ ?side1 ?side2 A4.out).mono ?_);(case side1=>repeat (first|exact HR0.out|(with_reducible first|apply Kd.C_alloc|apply Kd.C_drewN|apply Kd.C_drew)));(case side2=>exact HC0.out);rintro e w' ⟨rfl,⟨nd,rfl⟩⟩))
  go_ret
  exact ⟨by first|rfl|(simp;done)|(simp [*];done),by repeat (first|exact Drawn0.refl _|apply Drawn0.step)⟩
 ·replace c3:=Bool.eq_false_iff.mpr c3
  subst c3
  have H1 : (some false) = some r:=by rw [if_neg (show ¬ (false = true) by decide)] at H;exact H
  clear H
  have H:=H1
  clear H1
  obtain rfl:=Option.some.inj H
  go_enter Try.func49,Try.ntmps49
  go_wp2_with (first|((with_reducible refine gate_callee (f:=76) rfl ?_);refine goesL_ (some 5) rfl rfl Try.func76 (by kernel_rfl) rfl #[.int .i64 (l0.length : Int),.int .i64 40,.int .i64 160] rfl (by (try simp only [List.map_toArray,List.map_cons,List.map_nil]);first|done|rfl|(simp only [List.length_drop,List.length_take];rfl)) ?_;(with_reducible refine (impl_within.calls (l0.length : Int) 40 160 false _ A2.out).mono ?_);rintro e w' ⟨rfl,⟨nd,rfl⟩⟩;refine ⟨_,rfl,?_⟩))
  go_ret
  exact ⟨by first|rfl|(simp;done)|(simp [*];done),by repeat (first|exact Drawn0.refl _|apply Drawn0.step)⟩

end Go.Proofs.Ytlphbpaojcdjaaa.PFnExactPutIn
