-- Written by a program of this session over the print of the kit (wip/t/patch_print.py).
import Derived.Test.YtggnbbbhlnjleaaPFnExactTextInx0
import Derived.Test.YtggnbbbhlnjleaaPFnExactTextInx2
namespace Go.Proofs.Ytggnbbbhlnjleaa.PFnExactTextIn
open Go.RowKit Go.Proofs.YtggnbbbhlnjleaaW.PrintWords Go.Proofs.YtggnbbbhlnjleaaW.PrintLast Go.Proofs.YtggnbbbhlnjleaaW.PrintMore
attribute [local go_sem] max2_int min2_int max_two min_two max_three min_three max_four min_four   -- for this text's walks alone
set_option linter.unusedVariables false
set_option linter.unusedSimpArgs false

/-! ### laws_markByteSS: function 37 -/
def laws_markByteSS.l0 : Nat → List (List Int) → Int → Int → Option (Int × List (List Int))
 | 0,_,_,_=>none
 | k + 1,x0,x1,x5=>if x5 < (x0.length : Int) then (if 0 ≤ x5 then ((laws_markByteS.f k (x0.getD x5.toNat []) x1).bind fun t=>(laws_markByteSS.l0 k (x0.set (x5 : Int).toNat t.2) t.1 (wrap64 (x5 + 1)))) else (none)) else (some (x1,x0))
def laws_markByteSS.f (k : Nat) (l0 : List (List Int)) (a1 : Int) : Option (Int × List (List Int)):=laws_markByteSS.l0 k l0 a1 0
theorem laws_markByteSS.mono_l : ∀ k,(∀ y0 y1 y2,LeO (laws_markByteSS.l0 k y0 y1 y2) (laws_markByteSS.l0 (k + 1) y0 y1 y2))
 | 0=>fun _ _ _ r h=>by simp [laws_markByteSS.l0] at h
 | k + 1=>by
  have ih0:=laws_markByteSS.mono_l k
  ·intro y0 y1 y2
   unfold laws_markByteSS.l0
   repeat' first
   | (with_reducible exact ih0 _ _ _)
   | (with_reducible exact laws_markByteS.mono _ _ _)
   | (with_reducible exact LeO.refl _)
   | (with_reducible exact LeO.none _)
   | (with_reducible refine LeO.ite ?_ ?_)
   | (with_reducible refine LeO.bind ?_ (fun _=>?_))
   | exact ih0 _ _ _
   | exact laws_markByteS.mono _ _ _
   | exact LeO.none _
   | refine LeO.ite ?_ ?_
   | refine LeO.bind ?_ (fun _=>?_)
theorem laws_markByteSS.mono : ∀ a0 a1 k,LeO (laws_markByteSS.f k a0 a1) (laws_markByteSS.f (k + 1) a0 a1):=by
 intro a0 a1 k
 have ih0:=laws_markByteSS.mono_l k
 unfold laws_markByteSS.f
 repeat' first
   | (with_reducible exact ih0 _ _ _)
   | (with_reducible exact laws_markByteS.mono _ _ _)
   | (with_reducible exact LeO.refl _)
   | (with_reducible exact LeO.none _)
   | (with_reducible refine LeO.ite ?_ ?_)
   | (with_reducible refine LeO.bind ?_ (fun _=>?_))
   | exact ih0 _ _ _
   | exact laws_markByteS.mono _ _ _
   | exact LeO.none _
   | refine LeO.ite ?_ ?_
   | refine LeO.bind ?_ (fun _=>?_)
set_option maxHeartbeats 8000000 in
set_option maxRecDepth 100000 in
theorem laws_markByteSS.calls (k : Nat) (P0_ : Nat → Prop) (u9000_ : Value) (l0 : List (List Int)) (a1 : Int) (r1 : Int) (r2 : List (List Int)) (w0 w : World) (hB : Below w0.heap.size w0 w) (ho0 : Kd.S (Kd.slice 5 (Kd.int .u8)) 23 w w0.heap.size P0_ u9000_ l0) (h : laws_markByteSS.f k l0 a1 = some (r1,r2)) :
  Calls Try.prog 37 #[u9000_,.int .i64 a1] w fun e w'=>e = .returned (.int .i64 r1)∧Kd.S (Kd.slice 5 (Kd.int .u8)) 23 w' w0.heap.size (fun k_=>(P0_ k_ ∨ w.heap.size ≤ k_)) u9000_ r2∧Below w0.heap.size w0 w'∧Kept w w' (fun k_=>P0_ k_):=by
 have HO0:=Aside0.mk ho0
 have HK:=Aside0.mk (Kept.refl w (fun k_=>P0_ k_))
 have HB:=Aside0.mk hB
 clear hB ho0
 have H : (laws_markByteSS.l0 k l0 a1 0) = some (r1,r2):=h
 clear h
 have H':=Aside0.mk H
 clear H
 obtain ⟨Ao6,co6,eo6⟩:=Kd.S_slice HO0.out
 subst eo6
 have HN:=Aside0.mk (rfl : l0.length = l0.length)
 go_enter Try.func37,Try.ntmps37
 go_wp2
 go_loopg [1,5] k (fun kq v1 v5 w'=>∃ (x0_1 : List (List Int)) (x1_1 : Int) (x5_1 : Int),v1 = .int .i64 x1_1∧v5 = .int .i64 x5_1∧Aside0 (laws_markByteSS.l0 kq x0_1 x1_1 x5_1 = some (r1,r2))∧Aside0 (kq ≤ k)∧Aside0 (x0_1.length = l0.length)∧Aside0 (Kd.S (Kd.slice 5 (Kd.int .u8)) 23 w' w0.heap.size P0_ (.slice Ao6 l0.length co6) x0_1)∧Aside0 (Kept w w' (fun k_=>P0_ k_))∧Aside0 (Below w0.heap.size w0 w'))
 case atStart=>exact ⟨(l0),(a1),(0),rfl,rfl,H',⟨Nat.le_refl _⟩,⟨rfl⟩,HO0,HK,HB⟩
 case round =>
  clear H'
  try clear c1;try clear p2
  clear HO0 HK HB
  obtain ⟨x0_1,x1_1,x5_1,rfl,rfl,HA,HK1,HN1,HO,HK,HB⟩:=hrel
  have hlen:=HN1.out
  cases gk with
  | zero=>exact absurd HA.out (by simp [laws_markByteSS.l0])
  | succ k1 =>
   have H:=HA.out
   clear HA
   simp only [laws_markByteSS.l0] at H
   by_cases c3 : x5_1 < (x0_1.length : Int)
   ·rw [if_pos c3] at H
    rw [hlen] at c3
    have c3b0 : decide (x5_1 < (l0.length : Int)) = true:=decide_eq_true c3
    by_cases c4 : 0 ≤ x5_1
    ·rw [if_pos c4] at H
     have c4b0 : decide (0 ≤ x5_1) = true:=decide_eq_true c4
     replace H:=Option.bind_eq_some_iff.mp H
     obtain ⟨⟨t1,t2⟩,A60,H⟩:=H
     replace H : (laws_markByteSS.l0 k1 (x0_1.set (x5_1 : Int).toNat t2) t1 (wrap64 (x5_1 + 1))) = some (r1,r2):=H
     have A6:=Aside0.mk A60
     clear A60
     have H':=Aside0.mk H
     clear H
     obtain ⟨go5,co5,eo5,gb5,gl5,cl5,HG5⟩:=Kd.S_form HO.out (by omega)
     injection eo5 with ea_ en_ ec_
     subst ea_;subst ec_
     clear en_
     obtain ⟨oki,c,hcl,hM,hcc,hoki,hH⟩:=Kd.S_lend HO.out [] x5_1 c4 c3
     obtain ⟨el,hel⟩ : ∃ el : List Int,el = x0_1.getD x5_1.toNat []:=⟨_,rfl⟩
     rw [← hel] at hM
     have A7:=Aside0.mk (show laws_markByteS.f k1 el x1_1 = some (t1,t2) by rw [hel];exact A6.out)
     obtain ⟨v,rfl,hR⟩:=hM
     have hx0:=hcc 0 v rfl
     obtain ⟨Av,cv,ev⟩:=Kd.R_slice hR
     subst ev
     have hx : wr.cell? ⟨go5,x5_1.toNat,none⟩ = some (.slice Av el.length cv):=by simpa [Kd.slice] using hx0
     clear hel
     have p4:=eq_true c4
     have q4:=eq_true c3
     clear hcc hx0
     go_wp2_with (first|((with_reducible refine gate_callee (f:=18) rfl ?_);refine goesL_ (some 17) rfl rfl Try.func18 (by kernel_rfl) rfl #[.slice Av el.length cv,.int .i64 x1_1] rfl (by (try simp only [List.map_toArray,List.map_cons,List.map_nil]);first|done|rfl) ?_;(refine (laws_markByteS.calls k1 oki _ el x1_1 t1 t2 w0 _ HB.out hR A7.out).mono ?_);rintro e w2 ⟨rfl,hy,hb,hk⟩;refine ⟨_,rfl,?_⟩;have hS:=Aside0.mk (Kd.H_back (Kd.H_step hH (fun q h1 h2 h3=>hk.2 q h3 h2)) (Kd.M_row (Kd.R_mono (Kd.R_tight rfl hy) (fun q hq=>hR.1 q hq.symm))) (fun q hq=>hq));have hK:=Aside0.mk (Kept.then_ HK.out hk (fun q hq=>.inl (hoki q hq).1));have hB2:=Aside0.mk hb;clear HO HK HB hR hy hH hb hk hoki))
     go_roundg k1
     case measure=>have:=HK1.out;omega
     case rel=>exact ⟨_,t1,(wrap64 (x5_1 + 1)),rfl,rfl,H',⟨by have:=HK1.out;omega⟩,⟨by rw [List.length_set];exact hlen⟩,hS,hK,hB2⟩
    ·rw [if_neg c4] at H
     exact absurd H (by simp)
   ·rw [if_neg c3] at H
    rw [hlen] at c3
    have c3b0 : decide (x5_1 < (l0.length : Int)) = false:=decide_eq_false c3
    simp only [Option.some.injEq,Prod.mk.injEq] at H
    obtain ⟨rfl,rfl⟩:=H
    go_wp2
    go_ret
    exact ⟨rfl,Kd.S_mono HO.out (fun q hq=>.inl hq),HB.out,HK.out⟩

/-! ### laws_markSpace: function 12 -/
def laws_markSpace.f (k : Nat) (l0_0 : List (List Int)) (l0_1 : List Int) (l0_2 : List Int) (l0_3 : List Int) (a1 : Int) : Option (Int × (List (List Int)) × List Int × List Int × List Int):=(laws_markByteSS.f k l0_0 a1).bind fun bt157=>((laws_markByteS.f k l0_1 bt157.1).bind fun bt159=>((laws_markIntS.f k l0_2 bt159.1).bind fun bt161=>((laws_markIntS.f k l0_3 bt161.1).bind fun bt163=>(some (bt163.1,bt157.2,bt159.2,bt161.2,bt163.2)))))
theorem laws_markSpace.mono : ∀ a0 a1 a2 a3 a4 k,LeO (laws_markSpace.f k a0 a1 a2 a3 a4) (laws_markSpace.f (k + 1) a0 a1 a2 a3 a4):=by
 intro a0 a1 a2 a3 a4 k
 unfold laws_markSpace.f
 repeat' first
   | (with_reducible exact laws_markByteS.mono _ _ _)
   | (with_reducible exact laws_markByteSS.mono _ _ _)
   | (with_reducible exact laws_markIntS.mono _ _ _)
   | (with_reducible exact LeO.refl _)
   | (with_reducible exact LeO.none _)
   | (with_reducible refine LeO.ite ?_ ?_)
   | (with_reducible refine LeO.bind ?_ (fun _=>?_))
   | exact laws_markByteS.mono _ _ _
   | exact laws_markByteSS.mono _ _ _
   | exact laws_markIntS.mono _ _ _
   | exact LeO.none _
   | refine LeO.ite ?_ ?_
   | refine LeO.bind ?_ (fun _=>?_)
set_option maxHeartbeats 8000000 in
set_option maxRecDepth 100000 in
theorem laws_markSpace.calls (k : Nat) (P0_0_ : Nat → Prop) (u9000_ : Value) (l0_0 : List (List Int)) (P0_1_ : Nat → Prop) (u9001_ : Value) (l0_1 : List Int) (P0_2_ : Nat → Prop) (u9002_ : Value) (l0_2 : List Int) (P0_3_ : Nat → Prop) (u9003_ : Value) (l0_3 : List Int) (a1 : Int) (r1 : Int) (r2 : List (List Int)) (r3 : List Int) (r4 : List Int) (r5 : List Int) (w0 w : World) (hB : Below w0.heap.size w0 w) (ho0_0 : Kd.S (Kd.slice 5 (Kd.int .u8)) 23 w w0.heap.size P0_0_ u9000_ l0_0) (hp0_0_0_1 : ∀ k_,P0_0_ k_ → ¬ P0_1_ k_) (ho0_1 : Kd.R (Kd.int .u8) 5 w w0.heap.size P0_1_ u9001_ l0_1) (ho0_2 : Kd.R (Kd.int .i64) 3 w w0.heap.size P0_2_ u9002_ l0_2) (hp0_2_0_3 : ∀ k_,P0_2_ k_ → ¬ P0_3_ k_) (ho0_3 : Kd.R (Kd.int .i64) 3 w w0.heap.size P0_3_ u9003_ l0_3) (hp0_3_0_2 : ∀ k_,P0_3_ k_ → ¬ P0_2_ k_) (h : laws_markSpace.f k l0_0 l0_1 l0_2 l0_3 a1 = some (r1,r2,r3,r4,r5)) :
  Calls Try.prog 12 #[.agg #[u9000_,u9001_,u9002_,u9003_],.int .i64 a1] w fun e w'=>e = .returned (.int .i64 r1)∧Kd.S (Kd.slice 5 (Kd.int .u8)) 23 w' w0.heap.size (fun k_=>((P0_0_ k_ ∨ P0_1_ k_ ∨ P0_2_ k_ ∨ P0_3_ k_) ∨ w.heap.size ≤ k_)) u9000_ r2∧Kd.R (Kd.int .u8) 5 w' w0.heap.size (fun k_=>((P0_0_ k_ ∨ P0_1_ k_ ∨ P0_2_ k_ ∨ P0_3_ k_) ∨ w.heap.size ≤ k_)) u9001_ r3∧Kd.R (Kd.int .i64) 3 w' w0.heap.size (fun k_=>((P0_0_ k_ ∨ P0_1_ k_ ∨ P0_2_ k_ ∨ P0_3_ k_) ∨ w.heap.size ≤ k_)) u9002_ r4∧Kd.R (Kd.int .i64) 3 w' w0.heap.size (fun k_=>((P0_0_ k_ ∨ P0_1_ k_ ∨ P0_2_ k_ ∨ P0_3_ k_) ∨ w.heap.size ≤ k_)) u9003_ r5∧Below w0.heap.size w0 w'∧Kept w w' (fun k_=>P0_0_ k_ ∨ P0_1_ k_ ∨ P0_2_ k_ ∨ P0_3_ k_):=by
 have hu28:=Try.underlying28
 have HO0_0:=Aside0.mk (show Kd.S (Kd.slice 5 (Kd.int .u8)) 23 w w0.heap.size (fun k_=>((P0_0_ k_ ∨ P0_1_ k_ ∨ P0_2_ k_ ∨ P0_3_ k_) ∨ w.heap.size ≤ k_)∧some k_ ≠ (u9001_ : Value).ownBlock) u9000_ l0_0 from Kd.S_mono ho0_0 (fun k_ hk=>⟨(.inl (.inl hk)),fun e_=>hp0_0_0_1 k_ hk (ho0_1.1 k_ e_.symm)⟩))
 have HO0_1:=Aside0.mk (show Kd.R (Kd.int .u8) 5 w w0.heap.size (fun k_=>((P0_0_ k_ ∨ P0_1_ k_ ∨ P0_2_ k_ ∨ P0_3_ k_) ∨ w.heap.size ≤ k_)) u9001_ l0_1 from Kd.R_mono ho0_1 (fun k_ hk=>(.inl (.inr (.inl hk)))))
 have HO0_2:=Aside0.mk (show Kd.R (Kd.int .i64) 3 w w0.heap.size (fun k_=>((P0_0_ k_ ∨ P0_1_ k_ ∨ P0_2_ k_ ∨ P0_3_ k_) ∨ w.heap.size ≤ k_)∧some k_ ≠ (u9003_ : Value).ownBlock) u9002_ l0_2 from Kd.R_mono ho0_2 (fun k_ hk=>⟨(.inl (.inr (.inr (.inl hk)))),fun e_=>hp0_2_0_3 k_ hk (ho0_3.1 k_ e_.symm)⟩))
 have HO0_3:=Aside0.mk (show Kd.R (Kd.int .i64) 3 w w0.heap.size (fun k_=>((P0_0_ k_ ∨ P0_1_ k_ ∨ P0_2_ k_ ∨ P0_3_ k_) ∨ w.heap.size ≤ k_)∧some k_ ≠ (u9002_ : Value).ownBlock) u9003_ l0_3 from Kd.R_mono ho0_3 (fun k_ hk=>⟨(.inl (.inr (.inr (.inr hk)))),fun e_=>hp0_3_0_2 k_ hk (ho0_2.1 k_ e_.symm)⟩))
 have HK:=Aside0.mk (Kept.refl w (fun k_=>P0_0_ k_ ∨ P0_1_ k_ ∨ P0_2_ k_ ∨ P0_3_ k_))
 have HW0:=Aside0.mk hB.size
 have HB:=Aside0.mk hB
 clear hB
 have H : ((laws_markByteSS.f k l0_0 a1).bind fun bt157=>((laws_markByteS.f k l0_1 bt157.1).bind fun bt159=>((laws_markIntS.f k l0_2 bt159.1).bind fun bt161=>((laws_markIntS.f k l0_3 bt161.1).bind fun bt163=>(some (bt163.1,bt157.2,bt159.2,bt161.2,bt163.2)))))) = some (r1,r2,r3,r4,r5):=h
 clear h
 replace H:=Option.bind_eq_some_iff.mp H
 obtain ⟨⟨t157,t158⟩,A30,H⟩:=H
 replace H : ((laws_markByteS.f k l0_1 t157).bind fun bt159=>((laws_markIntS.f k l0_2 bt159.1).bind fun bt161=>((laws_markIntS.f k l0_3 bt161.1).bind fun bt163=>(some (bt163.1,t158,bt159.2,bt161.2,bt163.2))))) = some (r1,r2,r3,r4,r5):=H
 have A3:=Aside0.mk A30
 clear A30
 replace H:=Option.bind_eq_some_iff.mp H
 obtain ⟨⟨t159,t160⟩,A40,H⟩:=H
 replace H : ((laws_markIntS.f k l0_2 t159).bind fun bt161=>((laws_markIntS.f k l0_3 bt161.1).bind fun bt163=>(some (bt163.1,t158,t160,bt161.2,bt163.2)))) = some (r1,r2,r3,r4,r5):=H
 have A4:=Aside0.mk A40
 clear A40
 replace H:=Option.bind_eq_some_iff.mp H
 obtain ⟨⟨t161,t162⟩,A50,H⟩:=H
 replace H : ((laws_markIntS.f k l0_3 t161).bind fun bt163=>(some (bt163.1,t158,t160,t162,bt163.2))) = some (r1,r2,r3,r4,r5):=H
 have A5:=Aside0.mk A50
 clear A50
 replace H:=Option.bind_eq_some_iff.mp H
 obtain ⟨⟨t163,t164⟩,A60,H⟩:=H
 replace H : (some (t163,t158,t160,t162,t164)) = some (r1,r2,r3,r4,r5):=H
 have A6:=Aside0.mk A60
 clear A60
 simp only [Option.some.injEq,Prod.mk.injEq] at H
 obtain ⟨rfl,rfl,rfl,rfl,rfl⟩:=H
 obtain ⟨Ao7,co7,eo7⟩:=Kd.S_slice HO0_0.out
 subst eo7
 obtain ⟨Ao8,co8,eo8⟩:=Kd.R_slice HO0_1.out
 subst eo8
 obtain ⟨Ao9,co9,eo9⟩:=Kd.R_slice HO0_2.out
 subst eo9
 obtain ⟨Ao10,co10,eo10⟩:=Kd.R_slice HO0_3.out
 subst eo10
 go_enter Try.func12,Try.ntmps12
 go_wp2_with (first|((with_reducible refine gate_dst (N:=2) rfl ?_);refine box_event ?hg (N:=2) ?hd (cs:=#[.slice Ao7 l0_0.length co7,.slice Ao8 l0_1.length co8,.slice Ao9 l0_2.length co9,.slice Ao10 l0_3.length co10]) (t:=28) ?hr ?_;(case hd=>rfl);(case hg=>rfl);(case hr=>first|(go_simp;done)|(go_simp;rfl));intro gb156 hg w11 hbox hb;have n0_:=Aside0.mk (Kd.S_below (by (with_reducible repeat (first|apply Kd.S_alloc|apply Kd.S_drewN|apply Kd.S_drew));exact HO0_0.out) hb);have n1_:=Aside0.mk (Kd.R_below (by (with_reducible repeat (first|apply Kd.R_alloc|apply Kd.R_drewN|apply Kd.R_drew));exact HO0_1.out) hb);have n2_:=Aside0.mk (Kd.R_below (by (with_reducible repeat (first|apply Kd.R_alloc|apply Kd.R_drewN|apply Kd.R_drew));exact HO0_2.out) hb);have n3_:=Aside0.mk (Kd.R_below (by (with_reducible repeat (first|apply Kd.R_alloc|apply Kd.R_drewN|apply Kd.R_drew));exact HO0_3.out) hb);have n4_:=Aside0.mk (Kept.below (S:=(fun k_=>P0_0_ k_ ∨ P0_1_ k_ ∨ P0_2_ k_ ∨ P0_3_ k_)) (by repeat (first|(with_reducible first|exact HK.out|apply Kept.alloc|apply Kept.drewN|apply Kept.drew)|exact HK.out)) hb);have n5_:=Aside0.mk (below_step (by repeat (first|exact HB.out|apply below_alloc|apply pw_below_drewN|apply below_drew1)) hb);have n6_:=Aside0.mk (hbox);have n7_:=Aside0.mk ((by rw [hg];exact (by first|exact HK.out.1|exact (show Kept w _ (fun k_=>P0_0_ k_ ∨ P0_1_ k_ ∨ P0_2_ k_ ∨ P0_3_ k_) from by repeat (first|(with_reducible first|exact HK.out|apply Kept.alloc|apply Kept.drewN|apply Kept.drew)|exact HK.out)).1) : w.heap.size ≤ gb156));have n8_:=Aside0.mk ((by rw [hg];exact (below_size (by repeat (first|exact HB.out|apply below_alloc|apply pw_below_drewN|apply below_drew1))) : w0.heap.size ≤ gb156));clear HO0_0;clear HO0_1;clear HO0_2;clear HO0_3;clear HK;clear HB;have HO0_0:=n0_;have HO0_1:=n1_;have HO0_2:=n2_;have HO0_3:=n3_;have HK:=n4_;have HB:=n5_;have BK156:=n6_;have GW156:=n7_;have GE156:=n8_;clear n0_ n1_ n2_ n3_ n4_ n5_ n6_ n7_ n8_;clear hb hbox hg;have hcz12_0 : w11.cell? ⟨gb156,0,none⟩ = some (.slice Ao7 l0_0.length co7):=(blk_cell BK156.out 0).trans rfl;have hcz12_1 : w11.cell? ⟨gb156,1,none⟩ = some (.slice Ao8 l0_1.length co8):=(blk_cell BK156.out 1).trans rfl;have hcz12_2 : w11.cell? ⟨gb156,2,none⟩ = some (.slice Ao9 l0_2.length co9):=(blk_cell BK156.out 2).trans rfl;have hcz12_3 : w11.cell? ⟨gb156,3,none⟩ = some (.slice Ao10 l0_3.length co10):=(blk_cell BK156.out 3).trans rfl;have hfz12_0:=blk_frozen BK156.out 0;have hfz12_1:=blk_frozen BK156.out 1;have hfz12_2:=blk_frozen BK156.out 2;have hfz12_3:=blk_frozen BK156.out 3)|((with_reducible refine gate_callee (f:=37) rfl ?_);refine goesL_ (some 8) rfl rfl Try.func37 (by kernel_rfl) rfl #[.slice Ao7 l0_0.length co7,.int .i64 a1] rfl (by (try simp only [List.map_toArray,List.map_cons,List.map_nil]);first|done|rfl|(simp only [List.length_drop,List.length_take];rfl)) ?_;(with_reducible refine (laws_markByteSS.calls k (SB_ (Kd.slice 5 (Kd.int .u8)) 23 w11 w0.heap.size (fun k_=>(((P0_0_ k_ ∨ P0_1_ k_ ∨ P0_2_ k_ ∨ P0_3_ k_) ∨ w.heap.size ≤ k_)∧some k_ ≠ (.slice Ao8 l0_1.length co8 : Value).ownBlock))) (.slice Ao7 l0_0.length co7) l0_0 a1 t157 t158 w0 _ ?side1 ?side2 A3.out).mono ?_);(case side1=>repeat (first|(with_reducible first|exact HB.out|apply below_alloc|apply pw_below_drewN|apply below_drew1|refine below_set ?_ GE156.out)|exact HB.out));(case side2=>exact SB_own HO0_0.out);rintro e w13 ⟨rfl,hy0,hb,hkp⟩;refine ⟨_,rfl,?_⟩;have n0_:=Aside0.mk (Kd.S_mono (ok':=fun k_=>(((P0_0_ k_ ∨ P0_1_ k_ ∨ P0_2_ k_ ∨ P0_3_ k_) ∨ w.heap.size ≤ k_)∧some k_ ≠ (.slice Ao8 l0_1.length co8 : Value).ownBlock)) hy0 (fun k_ h_=>⟨Or.elim h_ (fun p_=>p_.1.1) (fun n_=>(.inr (Nat.le_trans (by first|exact HK.out.1|exact (show Kept w _ (fun k_=>P0_0_ k_ ∨ P0_1_ k_ ∨ P0_2_ k_ ∨ P0_3_ k_) from by repeat (first|(with_reducible first|exact HK.out|apply Kept.alloc|apply Kept.drewN|apply Kept.drew|refine Kept.setCell ?_ (.inr GW156.out) _)|exact HK.out)).1) n_))),Or.elim h_ (fun p_=>p_.1.2) (fun n_=>(Kd.fresh' (Kd.R_lt (by (with_reducible repeat (first|apply Kd.R_alloc|apply Kd.R_drewN|apply Kd.R_drew));exact HO0_1.out)) k_ n_))⟩));have n1_:=Aside0.mk (Kd.R_mono (ok':=fun k_=>((P0_0_ k_ ∨ P0_1_ k_ ∨ P0_2_ k_ ∨ P0_3_ k_) ∨ w.heap.size ≤ k_)) (Kd.R_keptB ((R_apartSBo (d':=(Kd.slice 5 (Kd.int .u8))) (e':=23) (base':=w0.heap.size) (ok':=(fun k_=>(((P0_0_ k_ ∨ P0_1_ k_ ∨ P0_2_ k_ ∨ P0_3_ k_) ∨ w.heap.size ≤ k_)∧some k_ ≠ (.slice Ao8 l0_1.length co8 : Value).ownBlock))) rfl HO0_1.out (fun k_ hk=>hk.2))) hkp (fun k_ hk_ hs_=>(hk_.2) hs_)) (fun k_ hk_=>hk_.1.1));have n2_:=Aside0.mk (Kd.R_mono (ok':=fun k_=>((P0_0_ k_ ∨ P0_1_ k_ ∨ P0_2_ k_ ∨ P0_3_ k_) ∨ w.heap.size ≤ k_)∧some k_ ≠ (.slice Ao10 l0_3.length co10 : Value).ownBlock) (Kd.R_keptB ((R_apartSB (d':=(Kd.slice 5 (Kd.int .u8))) (e':=23) (base':=w0.heap.size) (ok':=(fun k_=>(((P0_0_ k_ ∨ P0_1_ k_ ∨ P0_2_ k_ ∨ P0_3_ k_) ∨ w.heap.size ≤ k_)∧some k_ ≠ (.slice Ao8 l0_1.length co8 : Value).ownBlock))) HO0_2.out (by decide))) hkp (fun k_ hk_ hs_=>(hk_.2) hs_)) (fun k_ hk_=>⟨hk_.1.1.1,hk_.1.1.2⟩));have n3_:=Aside0.mk (Kd.R_mono (ok':=fun k_=>((P0_0_ k_ ∨ P0_1_ k_ ∨ P0_2_ k_ ∨ P0_3_ k_) ∨ w.heap.size ≤ k_)∧some k_ ≠ (.slice Ao9 l0_2.length co9 : Value).ownBlock) (Kd.R_keptB ((R_apartSB (d':=(Kd.slice 5 (Kd.int .u8))) (e':=23) (base':=w0.heap.size) (ok':=(fun k_=>(((P0_0_ k_ ∨ P0_1_ k_ ∨ P0_2_ k_ ∨ P0_3_ k_) ∨ w.heap.size ≤ k_)∧some k_ ≠ (.slice Ao8 l0_1.length co8 : Value).ownBlock))) HO0_3.out (by decide))) hkp (fun k_ hk_ hs_=>(hk_.2) hs_)) (fun k_ hk_=>⟨hk_.1.1.1,hk_.1.1.2⟩));have n4_:=Aside0.mk (blk_kept (g:=gb156) (o:=.cells #[.slice Ao7 l0_0.length co7,.slice Ao8 l0_1.length co8,.slice Ao9 l0_2.length co9,.slice Ao10 l0_3.length co10] 28 (0,0)) (by (with_reducible repeat first|apply blk_drewN|apply blk_drew|apply blk_alloc);exact BK156.out) hkp (fun hs_=>(fun e_=>(blk_SB BK156.out (by decide)) e_) hs_));have n5_:=Aside0.mk (Kept.then_ (S:=(fun k_=>P0_0_ k_ ∨ P0_1_ k_ ∨ P0_2_ k_ ∨ P0_3_ k_)) (by repeat (first|(with_reducible first|exact HK.out|apply Kept.alloc|apply Kept.drewN|apply Kept.drew|refine Kept.setCell ?_ (.inr GW156.out) _)|exact HK.out)) hkp (fun k_ hs_=>(fun e_=>e_.1.1) hs_));have n6_:=Aside0.mk (hb);clear HO0_0;clear HO0_1;clear HO0_2;clear HO0_3;clear BK156;clear HK;clear HB;have HO0_0:=n0_;have HO0_1:=n1_;have HO0_2:=n2_;have HO0_3:=n3_;have BK156:=n4_;have HK:=n5_;have HB:=n6_;clear n0_ n1_ n2_ n3_ n4_ n5_ n6_;(try clear hb);(try clear hkp);(try clear hbx);(try clear hy0);have hcz14_0 : w13.cell? ⟨gb156,0,none⟩ = some (.slice Ao7 l0_0.length co7):=(blk_cell BK156.out 0).trans rfl;have hcz14_1 : w13.cell? ⟨gb156,1,none⟩ = some (.slice Ao8 l0_1.length co8):=(blk_cell BK156.out 1).trans rfl;have hcz14_2 : w13.cell? ⟨gb156,2,none⟩ = some (.slice Ao9 l0_2.length co9):=(blk_cell BK156.out 2).trans rfl;have hcz14_3 : w13.cell? ⟨gb156,3,none⟩ = some (.slice Ao10 l0_3.length co10):=(blk_cell BK156.out 3).trans rfl;have hfz14_0:=blk_frozen BK156.out 0;have hfz14_1:=blk_frozen BK156.out 1;have hfz14_2:=blk_frozen BK156.out 2;have hfz14_3:=blk_frozen BK156.out 3)|((with_reducible refine gate_callee (f:=18) rfl ?_);refine goesL_ (some 12) rfl rfl Try.func18 (by kernel_rfl) rfl #[.slice Ao8 l0_1.length co8,.int .i64 t157] rfl (by (try simp only [List.map_toArray,List.map_cons,List.map_nil]);first|done|rfl|(simp only [List.length_drop,List.length_take];rfl)) ?_;(with_reducible refine (laws_markByteS.calls k (fun k_=>some k_ = (.slice Ao8 l0_1.length co8 : Value).ownBlock) (.slice Ao8 l0_1.length co8) l0_1 t157 t159 t160 w0 _ ?side1 ?side2 A4.out).mono ?_);(case side1=>repeat (first|(with_reducible first|exact HB.out|apply below_alloc|apply pw_below_drewN|apply below_drew1|refine below_set ?_ GE156.out)|exact HB.out));(case side2=>exact Kd.R_tight rfl HO0_1.out);rintro e w15 ⟨rfl,hy0,hb,hkp⟩;refine ⟨_,rfl,?_⟩;have n0_:=Aside0.mk (Kd.S_mono (ok':=fun k_=>((P0_0_ k_ ∨ P0_1_ k_ ∨ P0_2_ k_ ∨ P0_3_ k_) ∨ w.heap.size ≤ k_)∧some k_ ≠ (.slice Ao8 l0_1.length co8 : Value).ownBlock) (Kd.S_keptB (HO0_0.out) hkp (fun k_ hk_ hs_=>(hk_.2) hs_)) (fun k_ hk_=>⟨hk_.1.1,hk_.1.2⟩));have n1_:=Aside0.mk (Kd.R_reok rfl hy0 (fun k_ e_=>HO0_1.out.1 k_ e_));have n2_:=Aside0.mk (Kd.R_mono (ok':=fun k_=>((P0_0_ k_ ∨ P0_1_ k_ ∨ P0_2_ k_ ∨ P0_3_ k_) ∨ w.heap.size ≤ k_)∧some k_ ≠ (.slice Ao10 l0_3.length co10 : Value).ownBlock) (Kd.R_keptB ((Kd.R_apart' HO0_2.out (Kd.R_typed HO0_1.out) (by decide))) hkp (fun k_ hk_ hs_=>(hk_.2) hs_)) (fun k_ hk_=>⟨hk_.1.1.1,hk_.1.1.2⟩));have n3_:=Aside0.mk (Kd.R_mono (ok':=fun k_=>((P0_0_ k_ ∨ P0_1_ k_ ∨ P0_2_ k_ ∨ P0_3_ k_) ∨ w.heap.size ≤ k_)∧some k_ ≠ (.slice Ao9 l0_2.length co9 : Value).ownBlock) (Kd.R_keptB ((Kd.R_apart' HO0_3.out (Kd.R_typed HO0_1.out) (by decide))) hkp (fun k_ hk_ hs_=>(hk_.2) hs_)) (fun k_ hk_=>⟨hk_.1.1.1,hk_.1.1.2⟩));have n4_:=Aside0.mk (blk_kept (g:=gb156) (o:=.cells #[.slice Ao7 l0_0.length co7,.slice Ao8 l0_1.length co8,.slice Ao9 l0_2.length co9,.slice Ao10 l0_3.length co10] 28 (0,0)) (by (with_reducible repeat first|apply blk_drewN|apply blk_drew|apply blk_alloc);exact BK156.out) hkp (fun hs_=>(fun e_=>(Kd.R_ne HO0_1.out BK156.out (by decide)) e_) hs_));have n5_:=Aside0.mk (Kept.then_ (S:=(fun k_=>P0_0_ k_ ∨ P0_1_ k_ ∨ P0_2_ k_ ∨ P0_3_ k_)) (by repeat (first|(with_reducible first|exact HK.out|apply Kept.alloc|apply Kept.drewN|apply Kept.drew|refine Kept.setCell ?_ (.inr GW156.out) _)|exact HK.out)) hkp (fun k_ hs_=>(fun e_=>(HO0_1.out.1 k_ e_.symm)) hs_));have n6_:=Aside0.mk (hb);clear HO0_0;clear HO0_1;clear HO0_2;clear HO0_3;clear BK156;clear HK;clear HB;have HO0_0:=n0_;have HO0_1:=n1_;have HO0_2:=n2_;have HO0_3:=n3_;have BK156:=n4_;have HK:=n5_;have HB:=n6_;clear n0_ n1_ n2_ n3_ n4_ n5_ n6_;(try clear hb);(try clear hkp);(try clear hbx);(try clear hy0);have hcz16_0 : w15.cell? ⟨gb156,0,none⟩ = some (.slice Ao7 l0_0.length co7):=(blk_cell BK156.out 0).trans rfl;have hcz16_1 : w15.cell? ⟨gb156,1,none⟩ = some (.slice Ao8 l0_1.length co8):=(blk_cell BK156.out 1).trans rfl;have hcz16_2 : w15.cell? ⟨gb156,2,none⟩ = some (.slice Ao9 l0_2.length co9):=(blk_cell BK156.out 2).trans rfl;have hcz16_3 : w15.cell? ⟨gb156,3,none⟩ = some (.slice Ao10 l0_3.length co10):=(blk_cell BK156.out 3).trans rfl;have hfz16_0:=blk_frozen BK156.out 0;have hfz16_1:=blk_frozen BK156.out 1;have hfz16_2:=blk_frozen BK156.out 2;have hfz16_3:=blk_frozen BK156.out 3)|((with_reducible refine gate_callee (f:=19) rfl ?_);refine goesL_ (some 16) rfl rfl Try.func19 (by kernel_rfl) rfl #[.slice Ao9 l0_2.length co9,.int .i64 t159] rfl (by (try simp only [List.map_toArray,List.map_cons,List.map_nil]);first|done|rfl|(simp only [List.length_drop,List.length_take];rfl)) ?_;(with_reducible refine (laws_markIntS.calls k (fun k_=>some k_ = (.slice Ao9 l0_2.length co9 : Value).ownBlock) (.slice Ao9 l0_2.length co9) l0_2 t159 t161 t162 w0 _ ?side1 ?side2 A5.out).mono ?_);(case side1=>repeat (first|(with_reducible first|exact HB.out|apply below_alloc|apply pw_below_drewN|apply below_drew1|refine below_set ?_ GE156.out)|exact HB.out));(case side2=>exact Kd.R_tight rfl HO0_2.out);rintro e w17 ⟨rfl,hy0,hb,hkp⟩;refine ⟨_,rfl,?_⟩;have n0_:=Aside0.mk (Kd.S_mono (ok':=fun k_=>((P0_0_ k_ ∨ P0_1_ k_ ∨ P0_2_ k_ ∨ P0_3_ k_) ∨ w.heap.size ≤ k_)∧some k_ ≠ (.slice Ao8 l0_1.length co8 : Value).ownBlock) (Kd.S_keptB ((Kd.S_apart' HO0_0.out (Kd.R_typed HO0_2.out) (by decide))) hkp (fun k_ hk_ hs_=>(hk_.2) hs_)) (fun k_ hk_=>⟨hk_.1.1.1,hk_.1.1.2⟩));have n1_:=Aside0.mk (Kd.R_mono (ok':=fun k_=>((P0_0_ k_ ∨ P0_1_ k_ ∨ P0_2_ k_ ∨ P0_3_ k_) ∨ w.heap.size ≤ k_)) (Kd.R_keptB ((Kd.R_apart' HO0_1.out (Kd.R_typed HO0_2.out) (by decide))) hkp (fun k_ hk_ hs_=>(hk_.2) hs_)) (fun k_ hk_=>hk_.1.1));have n2_:=Aside0.mk (Kd.R_reok rfl hy0 (fun k_ e_=>HO0_2.out.1 k_ e_));have n3_:=Aside0.mk (Kd.R_mono (ok':=fun k_=>((P0_0_ k_ ∨ P0_1_ k_ ∨ P0_2_ k_ ∨ P0_3_ k_) ∨ w.heap.size ≤ k_)∧some k_ ≠ (.slice Ao9 l0_2.length co9 : Value).ownBlock) (Kd.R_keptB (HO0_3.out) hkp (fun k_ hk_ hs_=>(hk_.2) hs_)) (fun k_ hk_=>⟨hk_.1.1,hk_.1.2⟩));have n4_:=Aside0.mk (blk_kept (g:=gb156) (o:=.cells #[.slice Ao7 l0_0.length co7,.slice Ao8 l0_1.length co8,.slice Ao9 l0_2.length co9,.slice Ao10 l0_3.length co10] 28 (0,0)) (by (with_reducible repeat first|apply blk_drewN|apply blk_drew|apply blk_alloc);exact BK156.out) hkp (fun hs_=>(fun e_=>(Kd.R_ne HO0_2.out BK156.out (by decide)) e_) hs_));have n5_:=Aside0.mk (Kept.then_ (S:=(fun k_=>P0_0_ k_ ∨ P0_1_ k_ ∨ P0_2_ k_ ∨ P0_3_ k_)) (by repeat (first|(with_reducible first|exact HK.out|apply Kept.alloc|apply Kept.drewN|apply Kept.drew|refine Kept.setCell ?_ (.inr GW156.out) _)|exact HK.out)) hkp (fun k_ hs_=>(fun e_=>(HO0_2.out.1 k_ e_.symm).1) hs_));have n6_:=Aside0.mk (hb);clear HO0_0;clear HO0_1;clear HO0_2;clear HO0_3;clear BK156;clear HK;clear HB;have HO0_0:=n0_;have HO0_1:=n1_;have HO0_2:=n2_;have HO0_3:=n3_;have BK156:=n4_;have HK:=n5_;have HB:=n6_;clear n0_ n1_ n2_ n3_ n4_ n5_ n6_;(try clear hb);(try clear hkp);(try clear hbx);(try clear hy0);have hcz18_0 : w17.cell? ⟨gb156,0,none⟩ = some (.slice Ao7 l0_0.length co7):=(blk_cell BK156.out 0).trans rfl;have hcz18_1 : w17.cell? ⟨gb156,1,none⟩ = some (.slice Ao8 l0_1.length co8):=(blk_cell BK156.out 1).trans rfl;have hcz18_2 : w17.cell? ⟨gb156,2,none⟩ = some (.slice Ao9 l0_2.length co9):=(blk_cell BK156.out 2).trans rfl;have hcz18_3 : w17.cell? ⟨gb156,3,none⟩ = some (.slice Ao10 l0_3.length co10):=(blk_cell BK156.out 3).trans rfl;have hfz18_0:=blk_frozen BK156.out 0;have hfz18_1:=blk_frozen BK156.out 1;have hfz18_2:=blk_frozen BK156.out 2;have hfz18_3:=blk_frozen BK156.out 3)|((with_reducible refine gate_callee (f:=19) rfl ?_);refine goesL_ (some 20) rfl rfl Try.func19 (by kernel_rfl) rfl #[.slice Ao10 l0_3.length co10,.int .i64 t161] rfl (by (try simp only [List.map_toArray,List.map_cons,List.map_nil]);first|done|rfl|(simp only [List.length_drop,List.length_take];rfl)) ?_;(with_reducible refine (laws_markIntS.calls k (fun k_=>some k_ = (.slice Ao10 l0_3.length co10 : Value).ownBlock) (.slice Ao10 l0_3.length co10) l0_3 t161 t163 t164 w0 _ ?side1 ?side2 A6.out).mono ?_);(case side1=>repeat (first|(with_reducible first|exact HB.out|apply below_alloc|apply pw_below_drewN|apply below_drew1|refine below_set ?_ GE156.out)|exact HB.out));(case side2=>exact Kd.R_tight rfl HO0_3.out);rintro e w19 ⟨rfl,hy0,hb,hkp⟩;refine ⟨_,rfl,?_⟩;have n0_:=Aside0.mk (Kd.S_mono (ok':=fun k_=>((P0_0_ k_ ∨ P0_1_ k_ ∨ P0_2_ k_ ∨ P0_3_ k_) ∨ w.heap.size ≤ k_)∧some k_ ≠ (.slice Ao8 l0_1.length co8 : Value).ownBlock) (Kd.S_keptB ((Kd.S_apart' HO0_0.out (Kd.R_typed HO0_3.out) (by decide))) hkp (fun k_ hk_ hs_=>(hk_.2) hs_)) (fun k_ hk_=>⟨hk_.1.1.1,hk_.1.1.2⟩));have n1_:=Aside0.mk (Kd.R_mono (ok':=fun k_=>((P0_0_ k_ ∨ P0_1_ k_ ∨ P0_2_ k_ ∨ P0_3_ k_) ∨ w.heap.size ≤ k_)) (Kd.R_keptB ((Kd.R_apart' HO0_1.out (Kd.R_typed HO0_3.out) (by decide))) hkp (fun k_ hk_ hs_=>(hk_.2) hs_)) (fun k_ hk_=>hk_.1.1));have n2_:=Aside0.mk (Kd.R_mono (ok':=fun k_=>((P0_0_ k_ ∨ P0_1_ k_ ∨ P0_2_ k_ ∨ P0_3_ k_) ∨ w.heap.size ≤ k_)∧some k_ ≠ (.slice Ao10 l0_3.length co10 : Value).ownBlock) (Kd.R_keptB (HO0_2.out) hkp (fun k_ hk_ hs_=>(hk_.2) hs_)) (fun k_ hk_=>⟨hk_.1.1,hk_.1.2⟩));have n3_:=Aside0.mk (Kd.R_reok rfl hy0 (fun k_ e_=>HO0_3.out.1 k_ e_));have n4_:=Aside0.mk (blk_kept (g:=gb156) (o:=.cells #[.slice Ao7 l0_0.length co7,.slice Ao8 l0_1.length co8,.slice Ao9 l0_2.length co9,.slice Ao10 l0_3.length co10] 28 (0,0)) (by (with_reducible repeat first|apply blk_drewN|apply blk_drew|apply blk_alloc);exact BK156.out) hkp (fun hs_=>(fun e_=>(Kd.R_ne HO0_3.out BK156.out (by decide)) e_) hs_));have n5_:=Aside0.mk (Kept.then_ (S:=(fun k_=>P0_0_ k_ ∨ P0_1_ k_ ∨ P0_2_ k_ ∨ P0_3_ k_)) (by repeat (first|(with_reducible first|exact HK.out|apply Kept.alloc|apply Kept.drewN|apply Kept.drew|refine Kept.setCell ?_ (.inr GW156.out) _)|exact HK.out)) hkp (fun k_ hs_=>(fun e_=>(HO0_3.out.1 k_ e_.symm).1) hs_));have n6_:=Aside0.mk (hb);clear HO0_0;clear HO0_1;clear HO0_2;clear HO0_3;clear BK156;clear HK;clear HB;have HO0_0:=n0_;have HO0_1:=n1_;have HO0_2:=n2_;have HO0_3:=n3_;have BK156:=n4_;have HK:=n5_;have HB:=n6_;clear n0_ n1_ n2_ n3_ n4_ n5_ n6_;(try clear hb);(try clear hkp);(try clear hbx);(try clear hy0)))
 go_ret
 exact ⟨by first|rfl|(simp [*,errW_none,errW_some] <;> rfl),by (with_reducible repeat (first|apply Kd.S_alloc|apply Kd.S_drewN|apply Kd.S_drew));exact Kd.S_mono HO0_0.out (fun _ hk=>hk.1),by (with_reducible repeat (first|apply Kd.R_alloc|apply Kd.R_drewN|apply Kd.R_drew));exact HO0_1.out,by (with_reducible repeat (first|apply Kd.R_alloc|apply Kd.R_drewN|apply Kd.R_drew));exact Kd.R_mono HO0_2.out (fun _ hk=>hk.1),by (with_reducible repeat (first|apply Kd.R_alloc|apply Kd.R_drewN|apply Kd.R_drew));exact Kd.R_mono HO0_3.out (fun _ hk=>hk.1),by repeat (first|(with_reducible first|exact HB.out|apply below_alloc|apply pw_below_drewN|apply below_drew1|refine below_set ?_ GE156.out)|exact HB.out),by repeat (first|(with_reducible first|exact HK.out|apply Kept.alloc|apply Kept.drewN|apply Kept.drew|refine Kept.setCell ?_ (.inr GW156.out) _)|exact HK.out)⟩

/-! ### laws_heldIntS: function 21 -/
def laws_heldIntS.l0 : Nat → List Int → Int → Int → Option (Int)
 | 0,_,_,_=>none
 | k + 1,x0,x1,x5=>if x5 < (x0.length : Int) then (if 0 ≤ x5 then (if (rd x0 x5) = x1 then (laws_heldIntS.l0 k x0 (wrap64 (x1 + 1)) (wrap64 (x5 + 1))) else (some (-1))) else (none)) else (some x1)
def laws_heldIntS.f (k : Nat) (l0 : List Int) (a1 : Int) : Option (Int):=laws_heldIntS.l0 k l0 a1 0
theorem laws_heldIntS.mono_l : ∀ k,(∀ y0 y1 y2,LeO (laws_heldIntS.l0 k y0 y1 y2) (laws_heldIntS.l0 (k + 1) y0 y1 y2))
 | 0=>fun _ _ _ r h=>by simp [laws_heldIntS.l0] at h
 | k + 1=>by
  have ih0:=laws_heldIntS.mono_l k
  ·intro y0 y1 y2
   unfold laws_heldIntS.l0
   repeat' first
   | (with_reducible exact ih0 _ _ _)
   | (with_reducible exact LeO.refl _)
   | (with_reducible exact LeO.none _)
   | (with_reducible refine LeO.ite ?_ ?_)
   | (with_reducible refine LeO.bind ?_ (fun _=>?_))
   | exact ih0 _ _ _
   | exact LeO.none _
   | refine LeO.ite ?_ ?_
   | refine LeO.bind ?_ (fun _=>?_)
theorem laws_heldIntS.mono : ∀ a0 a1 k,LeO (laws_heldIntS.f k a0 a1) (laws_heldIntS.f (k + 1) a0 a1):=by
 intro a0 a1 k
 have ih0:=laws_heldIntS.mono_l k
 unfold laws_heldIntS.f
 repeat' first
   | (with_reducible exact ih0 _ _ _)
   | (with_reducible exact LeO.refl _)
   | (with_reducible exact LeO.none _)
   | (with_reducible refine LeO.ite ?_ ?_)
   | (with_reducible refine LeO.bind ?_ (fun _=>?_))
   | exact ih0 _ _ _
   | exact LeO.none _
   | refine LeO.ite ?_ ?_
   | refine LeO.bind ?_ (fun _=>?_)
set_option maxHeartbeats 8000000 in
set_option maxRecDepth 100000 in
theorem laws_heldIntS.calls (k : Nat) (A0 : Option Addr) (c0 : Nat) (l0 : List Int) (a1 : Int) (r : Int) (w : World) (hr0 : Kd.C (Kd.int .i64) w A0 l0.length l0) (hc0 : l0.length ≤ c0) (h : laws_heldIntS.f k l0 a1 = some r) :
  Calls Try.prog 21 #[.slice A0 l0.length c0,.int .i64 a1] w fun e w'=>e = .returned (.int .i64 r)∧Drawn0 w w':=by
 have HR0:=Aside0.mk hr0
 have HC0:=Aside0.mk hc0
 clear hr0 hc0
 have H : (laws_heldIntS.l0 k l0 a1 0) = some r:=h
 clear h
 have H':=Aside0.mk H
 clear H
 go_enter Try.func21,Try.ntmps21
 go_wp2
 go_loopg [1,5] k (fun kq v1 v5 w'=>∃ (x1_1 : Int) (x5_1 : Int),v1 = .int .i64 x1_1∧v5 = .int .i64 x5_1∧Aside0 (laws_heldIntS.l0 kq l0 x1_1 x5_1 = some r)∧Aside0 (kq ≤ k)∧Drawn0 w w')
 case atStart=>exact ⟨(a1),(0),(by first|rfl|(simp;done)|(simp [*];done)),(by first|rfl|(simp;done)|(simp [*];done)),H',⟨Nat.le_refl _⟩,by repeat (first|exact Drawn0.refl _|apply Drawn0.step)⟩
 case round =>
  clear H'
  try clear c2;try clear p2
  obtain ⟨x1_1,x5_1,rfl,rfl,HA,HK1,⟨m1,rfl⟩⟩:=hrel
  cases gk with
  | zero=>exact absurd HA.out (by simp [laws_heldIntS.l0])
  | succ k1 =>
   have H:=HA.out
   clear HA
   simp only [laws_heldIntS.l0] at H
   by_cases c3 : x5_1 < (l0.length : Int)
   ·rw [if_pos c3] at H
    have c3b0 : decide (x5_1 < (l0.length : Int)) = true:=decide_eq_true c3
    clear c3
    by_cases c4 : 0 ≤ x5_1
    ·rw [if_pos c4] at H
     have c4b0 : decide (0 ≤ x5_1) = true:=decide_eq_true c4
     clear c4
     by_cases c5 : (rd l0 x5_1) = x1_1
     ·rw [if_pos c5] at H
      have c5b0 : ((rd l0 x5_1) == x1_1) = true:=beq_iff_eq.mpr c5
      have c5b1 : ((rd l0 x5_1) != x1_1) = false:=bne_eq_false_iff_eq.mpr c5
      clear c5
      have H':=Aside0.mk H
      clear H
      have p165 : 0 ≤ (x5_1 : Int):=of_decide_eq_true (by assumption)
      have q165 : x5_1 < (l0.length : Int):=of_decide_eq_true (by assumption)
      obtain ⟨ad165,e165,hx165_0⟩:=Kd.at_int HR0.out x5_1 p165 q165
      cases e165
      replace p165:=eq_true p165
      replace q165:=eq_true q165
      go_wp2
      go_roundg k1
      case measure=>have:=HK1.out;omega
      case rel=>exact ⟨(wrap64 (x1_1 + 1)),(wrap64 (x5_1 + 1)),(by first|rfl|(simp;done)|(simp [*];done)),(by first|rfl|(simp;done)|(simp [*];done)),H',⟨by have:=HK1.out;omega⟩,by repeat (first|exact Drawn0.refl _|apply Drawn0.step)⟩
     ·rw [if_neg c5] at H
      have c5b0 : ((rd l0 x5_1) == x1_1) = false:=beq_eq_false_iff_ne.mpr c5
      have c5b1 : ((rd l0 x5_1) != x1_1) = true:=bne_iff_ne.mpr c5
      obtain rfl:=Option.some.inj H
      have p165 : 0 ≤ (x5_1 : Int):=of_decide_eq_true (by assumption)
      have q165 : x5_1 < (l0.length : Int):=of_decide_eq_true (by assumption)
      obtain ⟨ad165,e165,hx165_0⟩:=Kd.at_int HR0.out x5_1 p165 q165
      cases e165
      replace p165:=eq_true p165
      replace q165:=eq_true q165
      go_wp2
      go_ret
      exact ⟨by first|rfl|(simp;done)|(simp [*];done),by repeat (first|exact Drawn0.refl _|apply Drawn0.step)⟩
    ·rw [if_neg c4] at H
     exact absurd H (by simp)
   ·rw [if_neg c3] at H
    have c3b0 : decide (x5_1 < (l0.length : Int)) = false:=decide_eq_false c3
    clear c3
    obtain rfl:=Option.some.inj H
    go_wp2
    go_ret
    exact ⟨by first|rfl|(simp;done)|(simp [*];done),by repeat (first|exact Drawn0.refl _|apply Drawn0.step)⟩

/-! ### spec_l1In: function 53 -/
def spec_l1In.f (a0 : Int) (a1 : Int) (a2 : Int) : Option (Bool):=if a0 ≥ a1 then (some (decide (a0 ≤ a2))) else (some false)
set_option maxHeartbeats 8000000 in
set_option maxRecDepth 100000 in
theorem spec_l1In.calls (a0 : Int) (a1 : Int) (a2 : Int) (r : Bool) (w : World) (h : spec_l1In.f a0 a1 a2 = some r) :
  Calls Try.prog 53 #[.int .i64 a0,.int .i64 a1,.int .i64 a2] w fun e w'=>e = .returned (.bool r)∧Drawn0 w w':=by
 have H : (if a0 ≥ a1 then (some (decide (a0 ≤ a2))) else (some false)) = some r:=h
 clear h
 by_cases c4 : a0 ≥ a1
 ·rw [if_pos c4] at H
  have c4b0 : decide (a1 ≤ a0) = true:=decide_eq_true c4
  clear c4
  obtain rfl:=Option.some.inj H
  go_enter Try.func53,Try.ntmps53
  go_wp2
  go_ret
  exact ⟨by first|rfl|(simp;done)|(simp [*];done),by repeat (first|exact Drawn0.refl _|apply Drawn0.step)⟩
 ·rw [if_neg c4] at H
  have c4b0 : decide (a1 ≤ a0) = false:=decide_eq_false c4
  clear c4
  obtain rfl:=Option.some.inj H
  go_enter Try.func53,Try.ntmps53
  go_wp2
  go_ret
  exact ⟨by first|rfl|(simp;done)|(simp [*];done),by repeat (first|exact Drawn0.refl _|apply Drawn0.step)⟩

/-! ### spec_l5Used: function 54 -/
def spec_l5Used.f (l0 : List Int) (a1 : Int) : Option (Bool):=if 0 ≤ (wrap64 (Int.tdiv a1 8)) then (if (wrap64 (Int.tdiv a1 8)) < (l0.length : Int) then (if 0 ≤ (IntKind.u64.wrap (Int.tmod a1 8)) then (some ((Go.bits .and .u8 (shr .u8 (rd l0 (wrap64 (Int.tdiv a1 8))) (IntKind.u64.wrap (Int.tmod a1 8))) 1) == 1)) else (none)) else (none)) else (none)
set_option maxHeartbeats 8000000 in
set_option maxRecDepth 100000 in
theorem spec_l5Used.calls (A0 : Option Addr) (c0 : Nat) (l0 : List Int) (a1 : Int) (r : Bool) (w : World) (hr0 : Kd.C (Kd.int .u8) w A0 l0.length l0) (hc0 : l0.length ≤ c0) (h : spec_l5Used.f l0 a1 = some r) :
  Calls Try.prog 54 #[.slice A0 l0.length c0,.int .i64 a1] w fun e w'=>e = .returned (.bool r)∧Drawn0 w w':=by
 have HR0:=Aside0.mk hr0
 have HC0:=Aside0.mk hc0
 clear hr0 hc0
 have H : (if 0 ≤ (wrap64 (Int.tdiv a1 8)) then (if (wrap64 (Int.tdiv a1 8)) < (l0.length : Int) then (if 0 ≤ (IntKind.u64.wrap (Int.tmod a1 8)) then (some ((Go.bits .and .u8 (shr .u8 (rd l0 (wrap64 (Int.tdiv a1 8))) (IntKind.u64.wrap (Int.tmod a1 8))) 1) == 1)) else (none)) else (none)) else (none)) = some r:=h
 clear h
 obtain ⟨ji3,hji3⟩ : ∃ j_ : Int,(wrap64 (Int.tdiv a1 8)) = j_:=⟨_,rfl⟩
 replace H : (if 0 ≤ (ji3) then (if (ji3) < (l0.length : Int) then (if 0 ≤ (IntKind.u64.wrap (Int.tmod a1 8)) then (some ((Go.bits .and .u8 (shr .u8 (rd l0 (ji3)) (IntKind.u64.wrap (Int.tmod a1 8))) 1) == 1)) else (none)) else (none)) else (none)) = some r:=by first|(rw [hji3] at H;exact H)|(simp only [hji3] at H ⊢;exact H)
 have hji3w : (IntKind.i64.wrap (Int.tdiv a1 8)) = ji3:=(i64_w _).trans hji3
 by_cases c4 : 0 ≤ (ji3)
 ·rw [if_pos c4] at H
  have c4b0 : decide (0 ≤ (ji3)) = true:=decide_eq_true c4
  clear c4
  by_cases c5 : (ji3) < (l0.length : Int)
  ·rw [if_pos c5] at H
   have c5b0 : decide ((ji3) < (l0.length : Int)) = true:=decide_eq_true c5
   clear c5
   obtain ⟨ji6,hji6⟩ : ∃ j_ : Int,(IntKind.u64.wrap (Int.tmod a1 8)) = j_:=⟨_,rfl⟩
   replace H : (if 0 ≤ (ji6) then (some ((Go.bits .and .u8 (shr .u8 (rd l0 (ji3)) (ji6)) 1) == 1)) else (none)) = some r:=by first|(rw [hji6] at H;exact H)|(simp only [hji6] at H ⊢;exact H)
   by_cases c7 : 0 ≤ (ji6)
   ·rw [if_pos c7] at H
    have c7b0:=eq_true c7
    have c7b1 : decide (0 ≤ (ji6)) = true:=decide_eq_true c7
    clear c7
    obtain ⟨ji8,hji8⟩ : ∃ j_ : Int,(shr .u8 (rd l0 (ji3)) (ji6)) = j_:=⟨_,rfl⟩
    replace H : (some ((Go.bits .and .u8 (ji8) 1) == 1)) = some r:=by first|(rw [hji8] at H;exact H)|(simp only [hji8] at H ⊢;exact H)
    have hji8_ : ((rd l0 (ji3)) / 2 ^ min (ji6).toNat 8) = ji8:=hji8
    have hji8z : (ji6) ≤ 8 → ((rd l0 (ji3)) / 2 ^ (ji6).toNat) = ji8:=shr_small hji8
    obtain rfl:=Option.some.inj H
    have p166 : 0 ≤ ((ji3) : Int):=of_decide_eq_true (by assumption)
    have q166 : (ji3) < (l0.length : Int):=of_decide_eq_true (by assumption)
    obtain ⟨ad166,e166,hx166_0⟩:=Kd.at_int HR0.out (ji3) p166 q166
    cases e166
    replace p166:=eq_true p166
    replace q166:=eq_true q166
    go_enter Try.func54,Try.ntmps54
    go_wp2
    go_ret
    exact ⟨by first|rfl|(simp;done)|(simp only [← hji3,← hji6,← hji8] <;> (first|rfl|simp))|(simp [*];done),by repeat (first|exact Drawn0.refl _|apply Drawn0.step)⟩
   ·rw [if_neg c7] at H
    exact absurd H (by simp)
  ·rw [if_neg c5] at H
   exact absurd H (by simp)
 ·rw [if_neg c4] at H
  exact absurd H (by simp)

end Go.Proofs.Ytggnbbbhlnjleaa.PFnExactTextIn
