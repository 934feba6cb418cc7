-- Written by a program of this session over the print of the kit (wip/t/patch_print.py).
import Derived.Test.YtcdlookokffkeaaPFnExactValueInx0
import Derived.Test.YtcdlookokffkeaaPFnExactValueInx4
import Derived.Test.YtcdlookokffkeaaPFnExactValueInx5
namespace Go.Proofs.Ytcdlookokffkeaa.PFnExactValueIn
open Go.RowKit Go.Proofs.YtcdlookokffkeaaW.PrintWords Go.Proofs.YtcdlookokffkeaaW.PrintLast Go.Proofs.YtcdlookokffkeaaW.PrintMore
attribute [local go_sem] max2_int min2_int max_two min_two max_three min_three max_four min_four   -- for this text's walks alone
set_option linter.unusedVariables false
set_option linter.unusedSimpArgs false

/-! ### spec_l6Tree: function 33 -/
mutual
def spec_l6Tree.j0 : Nat → List (List Int) → List Int → Bool → List (List Int) → List Int → List Int → List Int → Option ((List (List Int)) × List Int × Bool)
 | 0,_,_,_,_,_,_,_=>none
 | k + 1,x7,x8,x36,x179000,x179001,x179002,x179003=>if x36 = true then (some (([] : List (List Int)),([] : List Int),false)) else (spec_l6Tree.l0 k x7 x8 x8 (x8.length : Int) 0 x179000 x179001 x179002 x179003)
def spec_l6Tree.l0 : Nat → List (List Int) → List Int → List Int → Int → Int → List (List Int) → List Int → List Int → List Int → Option ((List (List Int)) × List Int × Bool)
 | 0,_,_,_,_,_,_,_,_,_=>none
 | k + 1,x7,x8,x37,x38,x39,x179000,x179001,x179002,x179003=>if x39 < x38 then (if 0 ≤ x39 then (if x39 < (x37.length : Int) then (if (rd x37 x39) = 0 then (spec_l6Tree.l0 k x7 x8 x37 x38 (wrap64 (x39 + 1)) x179000 x179001 x179002 x179003) else (if x39 ≤ (x8.length : Int) then ((some (x8.take (x39 : Int).toNat : List Int)).bind fun y191=>(spec_l6Tree.l1 k x7 x8 x39 (rd x37 x39) x37 x38 x39 y191 (y191.length : Int) 0 x179000 x179001 x179002 x179003)) else (none))) else (none)) else (none)) else (some (x7,x8,true))
def spec_l6Tree.l1 : Nat → List (List Int) → List Int → Int → Int → List Int → Int → Int → List Int → Int → Int → List (List Int) → List Int → List Int → List Int → Option ((List (List Int)) × List Int × Bool)
 | 0,_,_,_,_,_,_,_,_,_,_,_,_,_,_=>none
 | k + 1,x7,x8,x10,x11,x37,x38,x39,x48,x49,x50,x179000,x179001,x179002,x179003=>if x50 < x49 then (if 0 ≤ x50 then (if x50 < (x48.length : Int) then (if (rd x48 x50) = x11 then (some (([] : List (List Int)),([] : List Int),false)) else (spec_l6Tree.l1 k x7 x8 x10 x11 x37 x38 x39 x48 x49 (wrap64 (x50 + 1)) x179000 x179001 x179002 x179003)) else (none)) else (none)) else ((spec_l6Numbers.f k x179000 x179001 x179002 x179003 x11 81).bind fun bt196=>(if bt196.2 = true then ((spec_l6Any.f k bt196.1).bind fun t200=>(spec_l6Tree.j3 k x7 x8 x10 bt196.1 x37 x38 x39 (!t200) x179000 x179001 x179002 x179003)) else (spec_l6Tree.j3 k x7 x8 x10 bt196.1 x37 x38 x39 true x179000 x179001 x179002 x179003)))
def spec_l6Tree.j3 : Nat → List (List Int) → List Int → Int → List Int → List Int → Int → Int → Bool → List (List Int) → List Int → List Int → List Int → Option ((List (List Int)) × List Int × Bool)
 | 0,_,_,_,_,_,_,_,_,_,_,_,_=>none
 | k + 1,x7,x8,x10,x14,x37,x38,x39,x70,x179000,x179001,x179002,x179003=>if x70 = true then (some (([] : List (List Int)),([] : List Int),false)) else (spec_l6Tree.l2 k x7 x8 x10 x14 x37 x38 x39 x14 (x14.length : Int) 0 x179000 x179001 x179002 x179003)
def spec_l6Tree.l2 : Nat → List (List Int) → List Int → Int → List Int → List Int → Int → Int → List Int → Int → Int → List (List Int) → List Int → List Int → List Int → Option ((List (List Int)) × List Int × Bool)
 | 0,_,_,_,_,_,_,_,_,_,_,_,_,_,_=>none
 | k + 1,x7,x8,x10,x14,x37,x38,x39,x71,x72,x73,x179000,x179001,x179002,x179003=>if x73 < x72 then (if 0 ≤ x73 then (if x73 < (x71.length : Int) then (if (rd x71 x73) = 0 then (spec_l6Tree.l2 k x7 x8 x10 x14 x37 x38 x39 x71 x72 (wrap64 (x73 + 1)) x179000 x179001 x179002 x179003) else ((spec_l6Value.f x179000 x179001 x179002 x179003 (rd x71 x73)).bind fun t202=>(if t202 = true then (spec_l6Tree.l2 k x7 x8 x10 x14 x37 x38 x39 x71 x72 (wrap64 (x73 + 1)) x179000 x179001 x179002 x179003) else (some (([] : List (List Int)),([] : List Int),false))))) else (none)) else (none)) else (if 0 ≤ x10 then (if x10 < (x7.length : Int) then (spec_l6Tree.l0 k (x7.set (x10 : Int).toNat x14) x8 x37 x38 (wrap64 (x39 + 1)) x179000 x179001 x179002 x179003) else (none)) else (none))
end
def spec_l6Tree.f (k : Nat) (l0_0 : List (List Int)) (l0_1 : List Int) (l0_2 : List Int) (l0_3 : List Int) (a1 : Int) : Option ((List (List Int)) × List Int × Bool):=if 32 ≤ 11728124029610 then ((some (List.replicate 32 [] : List (List Int))).bind fun y179=>(if 32 ≤ 35184372088832 then (if a1 = 0 then (some (y179,(List.replicate 32 0),true)) else ((spec_l6Numbers.f k l0_0 l0_1 l0_2 l0_3 a1 80).bind fun bt185=>(if bt185.2 = true then ((spec_l6Any.f k bt185.1).bind fun t189=>(spec_l6Tree.j0 k y179 bt185.1 (!t189) l0_0 l0_1 l0_2 l0_3)) else (spec_l6Tree.j0 k y179 bt185.1 true l0_0 l0_1 l0_2 l0_3)))) else (none))) else (none)
theorem spec_l6Tree.mono_l : ∀ k,(∀ y0 y1 y2 y3 y4 y5 y6,LeO (spec_l6Tree.j0 k y0 y1 y2 y3 y4 y5 y6) (spec_l6Tree.j0 (k + 1) y0 y1 y2 y3 y4 y5 y6))∧(∀ y0 y1 y2 y3 y4 y5 y6 y7 y8,LeO (spec_l6Tree.l0 k y0 y1 y2 y3 y4 y5 y6 y7 y8) (spec_l6Tree.l0 (k + 1) y0 y1 y2 y3 y4 y5 y6 y7 y8))∧(∀ y0 y1 y2 y3 y4 y5 y6 y7 y8 y9 y10 y11 y12 y13,LeO (spec_l6Tree.l1 k y0 y1 y2 y3 y4 y5 y6 y7 y8 y9 y10 y11 y12 y13) (spec_l6Tree.l1 (k + 1) y0 y1 y2 y3 y4 y5 y6 y7 y8 y9 y10 y11 y12 y13))∧(∀ y0 y1 y2 y3 y4 y5 y6 y7 y8 y9 y10 y11,LeO (spec_l6Tree.j3 k y0 y1 y2 y3 y4 y5 y6 y7 y8 y9 y10 y11) (spec_l6Tree.j3 (k + 1) y0 y1 y2 y3 y4 y5 y6 y7 y8 y9 y10 y11))∧(∀ y0 y1 y2 y3 y4 y5 y6 y7 y8 y9 y10 y11 y12 y13,LeO (spec_l6Tree.l2 k y0 y1 y2 y3 y4 y5 y6 y7 y8 y9 y10 y11 y12 y13) (spec_l6Tree.l2 (k + 1) y0 y1 y2 y3 y4 y5 y6 y7 y8 y9 y10 y11 y12 y13))
 | 0=>⟨fun _ _ _ _ _ _ _ r h=>by simp [spec_l6Tree.j0] at h,fun _ _ _ _ _ _ _ _ _ r h=>by simp [spec_l6Tree.l0] at h,fun _ _ _ _ _ _ _ _ _ _ _ _ _ _ r h=>by simp [spec_l6Tree.l1] at h,fun _ _ _ _ _ _ _ _ _ _ _ _ r h=>by simp [spec_l6Tree.j3] at h,fun _ _ _ _ _ _ _ _ _ _ _ _ _ _ r h=>by simp [spec_l6Tree.l2] at h⟩
 | k + 1=>by
  obtain ⟨ih0,ih1,ih2,ih3,ih4⟩:=spec_l6Tree.mono_l k
  refine ⟨?_,?_,?_,?_,?_⟩
  ·intro y0 y1 y2 y3 y4 y5 y6
   unfold spec_l6Tree.j0
   repeat' first
   | (with_reducible exact ih0 _ _ _ _ _ _ _)
   | (with_reducible exact ih1 _ _ _ _ _ _ _ _ _)
   | (with_reducible exact ih2 _ _ _ _ _ _ _ _ _ _ _ _ _ _)
   | (with_reducible exact ih3 _ _ _ _ _ _ _ _ _ _ _ _)
   | (with_reducible exact ih4 _ _ _ _ _ _ _ _ _ _ _ _ _ _)
   | (with_reducible exact spec_l6Any.mono _ _)
   | (with_reducible exact spec_l6Numbers.mono _ _ _ _ _ _ _)
   | (with_reducible exact LeO.refl _)
   | (with_reducible exact LeO.none _)
   | (with_reducible refine LeO.ite ?_ ?_)
   | (with_reducible refine LeO.bind ?_ (fun _=>?_))
   | exact ih0 _ _ _ _ _ _ _
   | exact ih1 _ _ _ _ _ _ _ _ _
   | exact ih2 _ _ _ _ _ _ _ _ _ _ _ _ _ _
   | exact ih3 _ _ _ _ _ _ _ _ _ _ _ _
   | exact ih4 _ _ _ _ _ _ _ _ _ _ _ _ _ _
   | exact spec_l6Any.mono _ _
   | exact spec_l6Numbers.mono _ _ _ _ _ _ _
   | exact LeO.none _
   | refine LeO.ite ?_ ?_
   | refine LeO.bind ?_ (fun _=>?_)
  ·intro y0 y1 y2 y3 y4 y5 y6 y7 y8
   unfold spec_l6Tree.l0
   repeat' first
   | (with_reducible exact ih0 _ _ _ _ _ _ _)
   | (with_reducible exact ih1 _ _ _ _ _ _ _ _ _)
   | (with_reducible exact ih2 _ _ _ _ _ _ _ _ _ _ _ _ _ _)
   | (with_reducible exact ih3 _ _ _ _ _ _ _ _ _ _ _ _)
   | (with_reducible exact ih4 _ _ _ _ _ _ _ _ _ _ _ _ _ _)
   | (with_reducible exact spec_l6Any.mono _ _)
   | (with_reducible exact spec_l6Numbers.mono _ _ _ _ _ _ _)
   | (with_reducible exact LeO.refl _)
   | (with_reducible exact LeO.none _)
   | (with_reducible refine LeO.ite ?_ ?_)
   | (with_reducible refine LeO.bind ?_ (fun _=>?_))
   | exact ih0 _ _ _ _ _ _ _
   | exact ih1 _ _ _ _ _ _ _ _ _
   | exact ih2 _ _ _ _ _ _ _ _ _ _ _ _ _ _
   | exact ih3 _ _ _ _ _ _ _ _ _ _ _ _
   | exact ih4 _ _ _ _ _ _ _ _ _ _ _ _ _ _
   | exact spec_l6Any.mono _ _
   | exact spec_l6Numbers.mono _ _ _ _ _ _ _
   | exact LeO.none _
   | refine LeO.ite ?_ ?_
   | refine LeO.bind ?_ (fun _=>?_)
  ·intro y0 y1 y2 y3 y4 y5 y6 y7 y8 y9 y10 y11 y12 y13
   unfold spec_l6Tree.l1
   repeat' first
   | (with_reducible exact ih0 _ _ _ _ _ _ _)
   | (with_reducible exact ih1 _ _ _ _ _ _ _ _ _)
   | (with_reducible exact ih2 _ _ _ _ _ _ _ _ _ _ _ _ _ _)
   | (with_reducible exact ih3 _ _ _ _ _ _ _ _ _ _ _ _)
   | (with_reducible exact ih4 _ _ _ _ _ _ _ _ _ _ _ _ _ _)
   | (with_reducible exact spec_l6Any.mono _ _)
   | (with_reducible exact spec_l6Numbers.mono _ _ _ _ _ _ _)
   | (with_reducible exact LeO.refl _)
   | (with_reducible exact LeO.none _)
   | (with_reducible refine LeO.ite ?_ ?_)
   | (with_reducible refine LeO.bind ?_ (fun _=>?_))
   | exact ih0 _ _ _ _ _ _ _
   | exact ih1 _ _ _ _ _ _ _ _ _
   | exact ih2 _ _ _ _ _ _ _ _ _ _ _ _ _ _
   | exact ih3 _ _ _ _ _ _ _ _ _ _ _ _
   | exact ih4 _ _ _ _ _ _ _ _ _ _ _ _ _ _
   | exact spec_l6Any.mono _ _
   | exact spec_l6Numbers.mono _ _ _ _ _ _ _
   | exact LeO.none _
   | refine LeO.ite ?_ ?_
   | refine LeO.bind ?_ (fun _=>?_)
  ·intro y0 y1 y2 y3 y4 y5 y6 y7 y8 y9 y10 y11
   unfold spec_l6Tree.j3
   repeat' first
   | (with_reducible exact ih0 _ _ _ _ _ _ _)
   | (with_reducible exact ih1 _ _ _ _ _ _ _ _ _)
   | (with_reducible exact ih2 _ _ _ _ _ _ _ _ _ _ _ _ _ _)
   | (with_reducible exact ih3 _ _ _ _ _ _ _ _ _ _ _ _)
   | (with_reducible exact ih4 _ _ _ _ _ _ _ _ _ _ _ _ _ _)
   | (with_reducible exact spec_l6Any.mono _ _)
   | (with_reducible exact spec_l6Numbers.mono _ _ _ _ _ _ _)
   | (with_reducible exact LeO.refl _)
   | (with_reducible exact LeO.none _)
   | (with_reducible refine LeO.ite ?_ ?_)
   | (with_reducible refine LeO.bind ?_ (fun _=>?_))
   | exact ih0 _ _ _ _ _ _ _
   | exact ih1 _ _ _ _ _ _ _ _ _
   | exact ih2 _ _ _ _ _ _ _ _ _ _ _ _ _ _
   | exact ih3 _ _ _ _ _ _ _ _ _ _ _ _
   | exact ih4 _ _ _ _ _ _ _ _ _ _ _ _ _ _
   | exact spec_l6Any.mono _ _
   | exact spec_l6Numbers.mono _ _ _ _ _ _ _
   | exact LeO.none _
   | refine LeO.ite ?_ ?_
   | refine LeO.bind ?_ (fun _=>?_)
  ·intro y0 y1 y2 y3 y4 y5 y6 y7 y8 y9 y10 y11 y12 y13
   unfold spec_l6Tree.l2
   repeat' first
   | (with_reducible exact ih0 _ _ _ _ _ _ _)
   | (with_reducible exact ih1 _ _ _ _ _ _ _ _ _)
   | (with_reducible exact ih2 _ _ _ _ _ _ _ _ _ _ _ _ _ _)
   | (with_reducible exact ih3 _ _ _ _ _ _ _ _ _ _ _ _)
   | (with_reducible exact ih4 _ _ _ _ _ _ _ _ _ _ _ _ _ _)
   | (with_reducible exact spec_l6Any.mono _ _)
   | (with_reducible exact spec_l6Numbers.mono _ _ _ _ _ _ _)
   | (with_reducible exact LeO.refl _)
   | (with_reducible exact LeO.none _)
   | (with_reducible refine LeO.ite ?_ ?_)
   | (with_reducible refine LeO.bind ?_ (fun _=>?_))
   | exact ih0 _ _ _ _ _ _ _
   | exact ih1 _ _ _ _ _ _ _ _ _
   | exact ih2 _ _ _ _ _ _ _ _ _ _ _ _ _ _
   | exact ih3 _ _ _ _ _ _ _ _ _ _ _ _
   | exact ih4 _ _ _ _ _ _ _ _ _ _ _ _ _ _
   | exact spec_l6Any.mono _ _
   | exact spec_l6Numbers.mono _ _ _ _ _ _ _
   | exact LeO.none _
   | refine LeO.ite ?_ ?_
   | refine LeO.bind ?_ (fun _=>?_)
theorem spec_l6Tree.mono : ∀ a0 a1 a2 a3 a4 k,LeO (spec_l6Tree.f k a0 a1 a2 a3 a4) (spec_l6Tree.f (k + 1) a0 a1 a2 a3 a4):=by
 intro a0 a1 a2 a3 a4 k
 obtain ⟨ih0,ih1,ih2,ih3,ih4⟩:=spec_l6Tree.mono_l k
 unfold spec_l6Tree.f
 repeat' first
   | (with_reducible exact ih0 _ _ _ _ _ _ _)
   | (with_reducible exact ih1 _ _ _ _ _ _ _ _ _)
   | (with_reducible exact ih2 _ _ _ _ _ _ _ _ _ _ _ _ _ _)
   | (with_reducible exact ih3 _ _ _ _ _ _ _ _ _ _ _ _)
   | (with_reducible exact ih4 _ _ _ _ _ _ _ _ _ _ _ _ _ _)
   | (with_reducible exact spec_l6Any.mono _ _)
   | (with_reducible exact spec_l6Numbers.mono _ _ _ _ _ _ _)
   | (with_reducible exact LeO.refl _)
   | (with_reducible exact LeO.none _)
   | (with_reducible refine LeO.ite ?_ ?_)
   | (with_reducible refine LeO.bind ?_ (fun _=>?_))
   | exact ih0 _ _ _ _ _ _ _
   | exact ih1 _ _ _ _ _ _ _ _ _
   | exact ih2 _ _ _ _ _ _ _ _ _ _ _ _ _ _
   | exact ih3 _ _ _ _ _ _ _ _ _ _ _ _
   | exact ih4 _ _ _ _ _ _ _ _ _ _ _ _ _ _
   | exact spec_l6Any.mono _ _
   | exact spec_l6Numbers.mono _ _ _ _ _ _ _
   | exact LeO.none _
   | refine LeO.ite ?_ ?_
   | refine LeO.bind ?_ (fun _=>?_)
set_option maxHeartbeats 8000000 in
set_option maxRecDepth 100000 in
theorem spec_l6Tree.calls (k : Nat) (A0_0 : Option Addr) (c0_0 : Nat) (l0_0 : List (List Int)) (A0_1 : Option Addr) (c0_1 : Nat) (l0_1 : List Int) (A0_2 : Option Addr) (c0_2 : Nat) (l0_2 : List Int) (A0_3 : Option Addr) (c0_3 : Nat) (l0_3 : List Int) (a1 : Int) (r1 : List (List Int)) (r2 : List Int) (r3 : Bool) (w : World) (hr0_0 : Kd.C (Kd.slice 5 (Kd.int .u8)) w A0_0 l0_0.length l0_0) (hc0_0 : l0_0.length ≤ c0_0) (hr0_1 : Kd.C (Kd.int .u8) w A0_1 l0_1.length l0_1) (hc0_1 : l0_1.length ≤ c0_1) (hr0_2 : Kd.C (Kd.int .i64) w A0_2 l0_2.length l0_2) (hc0_2 : l0_2.length ≤ c0_2) (hr0_3 : Kd.C (Kd.int .i64) w A0_3 l0_3.length l0_3) (hc0_3 : l0_3.length ≤ c0_3) (h : spec_l6Tree.f k l0_0 l0_1 l0_2 l0_3 a1 = some (r1,r2,r3)) :
  Calls Try.prog 33 #[.agg #[.slice A0_0 l0_0.length c0_0,.slice A0_1 l0_1.length c0_1,.slice A0_2 l0_2.length c0_2,.slice A0_3 l0_3.length c0_3],.int .i64 a1] w fun e w'=>∃ v0_ v1_ : Value,e = .returned (.tuple #[v0_,v1_,.bool r3])∧Kd.S (Kd.slice 3 (Kd.int .i64)) 24 w' w.heap.size (fun k_=>some k_ ≠ (v1_ : Value).ownBlock) v0_ r1∧Kd.R (Kd.int .i64) 3 w' w.heap.size (fun _=>True) v1_ r2∧Below w.heap.size w w':=by
 have hu30:=Try.underlying30
 have HR0_0:=Aside0.mk hr0_0
 have HC0_0:=Aside0.mk hc0_0
 clear hr0_0 hc0_0
 have HR0_1:=Aside0.mk hr0_1
 have HC0_1:=Aside0.mk hc0_1
 clear hr0_1 hc0_1
 have HR0_2:=Aside0.mk hr0_2
 have HC0_2:=Aside0.mk hc0_2
 clear hr0_2 hc0_2
 have HR0_3:=Aside0.mk hr0_3
 have HC0_3:=Aside0.mk hc0_3
 clear hr0_3 hc0_3
 have HB:=Aside0.mk (Below.refl w.heap.size w)
 have H : (if 32 ≤ 11728124029610 then ((some (List.replicate 32 [] : List (List Int))).bind fun y179=>(if 32 ≤ 35184372088832 then (if a1 = 0 then (some (y179,(List.replicate 32 0),true)) else ((spec_l6Numbers.f k l0_0 l0_1 l0_2 l0_3 a1 80).bind fun bt185=>(if bt185.2 = true then ((spec_l6Any.f k bt185.1).bind fun t189=>(spec_l6Tree.j0 k y179 bt185.1 (!t189) l0_0 l0_1 l0_2 l0_3)) else (spec_l6Tree.j0 k y179 bt185.1 true l0_0 l0_1 l0_2 l0_3)))) else (none))) else (none)) = some (r1,r2,r3):=h
 clear h
 by_cases c3 : 32 ≤ 11728124029610
 ·rw [if_pos c3] at H
  have c3b0:=eq_true c3
  have c3b1 : decide (32 ≤ 11728124029610) = true:=decide_eq_true c3
  clear c3
  obtain ⟨y179,hy179⟩ : ∃ y_ : List (List Int),y_ = (List.replicate 32 []):=⟨_,rfl⟩
  replace H : (if 32 ≤ 35184372088832 then (if a1 = 0 then (some (y179,(List.replicate 32 0),true)) else ((spec_l6Numbers.f k l0_0 l0_1 l0_2 l0_3 a1 80).bind fun bt185=>(if bt185.2 = true then ((spec_l6Any.f k bt185.1).bind fun t189=>(spec_l6Tree.j0 k y179 bt185.1 (!t189) l0_0 l0_1 l0_2 l0_3)) else (spec_l6Tree.j0 k y179 bt185.1 true l0_0 l0_1 l0_2 l0_3)))) else (none)) = some (r1,r2,r3):=by first|(rw [hy179];with_reducible exact H)|(have H2_:=(Option.bind_some _ _).symm.trans H;rw [hy179];with_reducible exact H2_)|(have H2_:=(Option.bind_some _ _).symm.trans H;with_reducible exact H2_)|with_reducible exact H|(rw [hy179];exact H)|exact H
  have Ny179:=Aside0.mk hy179
  clear hy179
  by_cases c4 : 32 ≤ 35184372088832
  ·rw [if_pos c4] at H
   have c4b0:=eq_true c4
   have c4b1 : decide (32 ≤ 35184372088832) = true:=decide_eq_true c4
   clear c4
   obtain ⟨y182,hy182⟩ : ∃ y_ : List Int,y_ = (List.replicate 32 0):=⟨_,rfl⟩
   replace H : (if a1 = 0 then (some (y179,y182,true)) else ((spec_l6Numbers.f k l0_0 l0_1 l0_2 l0_3 a1 80).bind fun bt185=>(if bt185.2 = true then ((spec_l6Any.f k bt185.1).bind fun t189=>(spec_l6Tree.j0 k y179 bt185.1 (!t189) l0_0 l0_1 l0_2 l0_3)) else (spec_l6Tree.j0 k y179 bt185.1 true l0_0 l0_1 l0_2 l0_3)))) = some (r1,r2,r3):=by first|(rw [hy182];with_reducible exact H)|(have H2_:=(Option.bind_some _ _).symm.trans H;rw [hy182];with_reducible exact H2_)|(have H2_:=(Option.bind_some _ _).symm.trans H;with_reducible exact H2_)|with_reducible exact H|(rw [hy182];exact H)|exact H
   have Ny182:=Aside0.mk hy182
   clear hy182
   by_cases c5 : a1 = 0
   ·rw [if_pos c5] at H
    have c5b0 : (a1 == 0) = true:=beq_iff_eq.mpr c5
    have c5b1 : (a1 != 0) = false:=bne_eq_false_iff_eq.mpr c5
    clear c5
    simp only [Option.some.injEq,Prod.mk.injEq] at H
    obtain ⟨rfl,rfl,rfl⟩:=H
    go_enter Try.func33,Try.ntmps33
    go_wp2_with (first|((with_reducible refine gate_dst (N:=2) rfl ?_);refine box_event ?hg (N:=2) ?hd (cs:=#[.slice A0_0 l0_0.length c0_0,.slice A0_1 l0_1.length c0_1,.slice A0_2 l0_2.length c0_2,.slice A0_3 l0_3.length c0_3]) (t:=30) ?hr ?_;(case hd=>rfl);(case hg=>rfl);(case hr=>first|(go_simp;done)|(go_simp;rfl));intro gb178 hg w6 hbox hb;have n0_:=Aside0.mk (below_step (by repeat (first|exact HB.out|apply below_alloc|apply pw_below_drewN|apply below_drew1)) hb);have n1_:=Aside0.mk (hbox);have n2_:=Aside0.mk ((by rw [hg];exact (below_size (by repeat (first|exact HB.out|apply below_alloc|apply pw_below_drewN|apply below_drew1))) : w.heap.size ≤ gb178));have n3_:=Aside0.mk ((by rw [hg];exact (below_size (by repeat (first|exact HB.out|apply below_alloc|apply pw_below_drewN|apply below_drew1))) : w.heap.size ≤ gb178));clear HB;have HB:=n0_;have BK178:=n1_;have GW178:=n2_;have GE178:=n3_;clear n0_ n1_ n2_ n3_;clear hb hbox hg)|((with_reducible refine gate_dst (N:=18) rfl ?_);refine Kd.S_make (Kd.slice 3 (Kd.int .i64)) _ 24 rfl (N:=18) rfl 53 _ _ rfl 32 rfl rfl Try.underlying53 (.slice none 0 0) 24 info24 rfl (by decide) (by omega) [] (ok:=fun _=>True) (okp:=fun _=>True) ⟨_,rfl,Kd.R_nil _ _ _ _ _⟩ (fun _ hk=>hk) trivial (by omega) (by omega) (Below.refl _ _) (Nat.le_refl _) ?_;intro v180 w7 ho8 hb hg_ hnew_;clear hg_ hnew_;(first|rw [← Ny179.out] at ho8|(simp only [Int.reduceToNat] at ho8;rw [← Ny179.out] at ho8));have n0_:=Aside0.mk (Kd.S_lower ho8 (below_size (by repeat (first|(with_reducible first|exact HB.out|apply below_alloc|apply pw_below_drewN|apply below_drew1|refine below_set ?_ GE178.out)|exact HB.out))));have n1_:=Aside0.mk (blk_below (g:=gb178) (o:=.cells #[.slice A0_0 l0_0.length c0_0,.slice A0_1 l0_1.length c0_1,.slice A0_2 l0_2.length c0_2,.slice A0_3 l0_3.length c0_3] 30 (0,0)) (by (with_reducible repeat first|apply blk_drewN|apply blk_drew|apply blk_alloc);exact BK178.out) hb);have n2_:=Aside0.mk (below_step (by repeat (first|(with_reducible first|exact HB.out|apply below_alloc|apply pw_below_drewN|apply below_drew1|refine below_set ?_ GE178.out)|exact HB.out)) hb);clear BK178;clear HB;have HO181:=n0_;have BK178:=n1_;have HB:=n2_;clear n0_ n1_ n2_;clear hb ho8)|((with_reducible refine gate_dst (N:=19) rfl ?_);refine Kd.R_make (Kd.int .i64) _ 3 rfl (N:=19) rfl 24 _ _ rfl 32 rfl rfl Try.underlying24 (.int .i64 0) 8 info3 rfl (by decide) (by omega) 0 (ok:=fun _=>True) (okp:=fun _=>True) rfl (fun _ hk=>hk) trivial (by omega) (by omega) (Below.refl _ _) (Nat.le_refl _) ?_;intro v183 w9 ho10 hb hg_ hnew_;clear hg_ hnew_;(first|rw [← Ny182.out] at ho10|(simp only [Int.reduceToNat] at ho10;rw [← Ny182.out] at ho10));have n0_:=Aside0.mk (Kd.S_elder' (by (with_reducible repeat (first|apply Kd.S_alloc|apply Kd.S_drewN|apply Kd.S_drew));exact HO181.out) (Kd.R_base ho10) hb);have n1_:=Aside0.mk (Kd.R_lower ho10 (below_size (by repeat (first|(with_reducible first|exact HB.out|apply below_alloc|apply pw_below_drewN|apply below_drew1|refine below_set ?_ GE178.out)|exact HB.out))));have n2_:=Aside0.mk (blk_below (g:=gb178) (o:=.cells #[.slice A0_0 l0_0.length c0_0,.slice A0_1 l0_1.length c0_1,.slice A0_2 l0_2.length c0_2,.slice A0_3 l0_3.length c0_3] 30 (0,0)) (by (with_reducible repeat first|apply blk_drewN|apply blk_drew|apply blk_alloc);exact BK178.out) hb);have n3_:=Aside0.mk (below_step (by repeat (first|(with_reducible first|exact HB.out|apply below_alloc|apply pw_below_drewN|apply below_drew1|refine below_set ?_ GE178.out)|exact HB.out)) hb);clear HO181;clear BK178;clear HB;have HO181:=n0_;have HO184:=n1_;have BK178:=n2_;have HB:=n3_;clear n0_ n1_ n2_ n3_;clear hb ho10))
    go_ret3
    exact ⟨_,_,by first|rfl|(simp [*,errW_none,errW_some] <;> rfl),by (with_reducible repeat (first|apply Kd.S_alloc|apply Kd.S_drewN|apply Kd.S_drew));exact Kd.S_mono HO181.out (fun _ hk=>hk.2),by (with_reducible repeat (first|apply Kd.R_alloc|apply Kd.R_drewN|apply Kd.R_drew));exact HO184.out,by repeat (first|(with_reducible first|exact HB.out|apply below_alloc|apply pw_below_drewN|apply below_drew1|refine below_set ?_ GE178.out)|exact HB.out)⟩
   ·rw [if_neg c5] at H
    have c5b0 : (a1 == 0) = false:=beq_eq_false_iff_ne.mpr c5
    have c5b1 : (a1 != 0) = true:=bne_iff_ne.mpr c5
    replace H:=Option.bind_eq_some_iff.mp H
    obtain ⟨⟨t185,t188⟩,A110,H⟩:=H
    replace H : (if t188 = true then ((spec_l6Any.f k t185).bind fun t189=>(spec_l6Tree.j0 k y179 t185 (!t189) l0_0 l0_1 l0_2 l0_3)) else (spec_l6Tree.j0 k y179 t185 true l0_0 l0_1 l0_2 l0_3)) = some (r1,r2,r3):=H
    have A11:=Aside0.mk A110
    clear A110
    have HC12:=Aside0.mk H
    clear H
    go_enter Try.func33,Try.ntmps33
    go_upto_region 6 with (first|((with_reducible refine gate_dst (N:=2) rfl ?_);refine box_event ?hg (N:=2) ?hd (cs:=#[.slice A0_0 l0_0.length c0_0,.slice A0_1 l0_1.length c0_1,.slice A0_2 l0_2.length c0_2,.slice A0_3 l0_3.length c0_3]) (t:=30) ?hr ?_;(case hd=>rfl);(case hg=>rfl);(case hr=>first|(go_simp;done)|(go_simp;rfl));intro gb178 hg w13 hbox hb;have n0_:=Aside0.mk (below_step (by repeat (first|exact HB.out|apply below_alloc|apply pw_below_drewN|apply below_drew1)) hb);have n1_:=Aside0.mk (hbox);have n2_:=Aside0.mk ((by rw [hg];exact (below_size (by repeat (first|exact HB.out|apply below_alloc|apply pw_below_drewN|apply below_drew1))) : w.heap.size ≤ gb178));have n3_:=Aside0.mk ((by rw [hg];exact (below_size (by repeat (first|exact HB.out|apply below_alloc|apply pw_below_drewN|apply below_drew1))) : w.heap.size ≤ gb178));clear HB;have HB:=n0_;have BK178:=n1_;have GW178:=n2_;have GE178:=n3_;clear n0_ n1_ n2_ n3_;clear hb hbox hg)|((with_reducible refine gate_dst (N:=18) rfl ?_);refine Kd.S_make (Kd.slice 3 (Kd.int .i64)) _ 24 rfl (N:=18) rfl 53 _ _ rfl 32 rfl rfl Try.underlying53 (.slice none 0 0) 24 info24 rfl (by decide) (by omega) [] (ok:=fun _=>True) (okp:=fun _=>True) ⟨_,rfl,Kd.R_nil _ _ _ _ _⟩ (fun _ hk=>hk) trivial (by omega) (by omega) (Below.refl _ _) (Nat.le_refl _) ?_;intro v180 w14 ho15 hb hg_ hnew_;clear hg_ hnew_;(first|rw [← Ny179.out] at ho15|(simp only [Int.reduceToNat] at ho15;rw [← Ny179.out] at ho15));have n0_:=Aside0.mk (Kd.S_lower ho15 (below_size (by repeat (first|(with_reducible first|exact HB.out|apply below_alloc|apply pw_below_drewN|apply below_drew1|refine below_set ?_ GE178.out)|exact HB.out))));have n1_:=Aside0.mk (blk_below (g:=gb178) (o:=.cells #[.slice A0_0 l0_0.length c0_0,.slice A0_1 l0_1.length c0_1,.slice A0_2 l0_2.length c0_2,.slice A0_3 l0_3.length c0_3] 30 (0,0)) (by (with_reducible repeat first|apply blk_drewN|apply blk_drew|apply blk_alloc);exact BK178.out) hb);have n2_:=Aside0.mk (below_step (by repeat (first|(with_reducible first|exact HB.out|apply below_alloc|apply pw_below_drewN|apply below_drew1|refine below_set ?_ GE178.out)|exact HB.out)) hb);clear BK178;clear HB;have HO181:=n0_;have BK178:=n1_;have HB:=n2_;clear n0_ n1_ n2_;clear hb ho15)|((with_reducible refine gate_dst (N:=19) rfl ?_);refine Kd.R_make (Kd.int .i64) _ 3 rfl (N:=19) rfl 24 _ _ rfl 32 rfl rfl Try.underlying24 (.int .i64 0) 8 info3 rfl (by decide) (by omega) 0 (ok:=fun _=>True) (okp:=fun _=>True) rfl (fun _ hk=>hk) trivial (by omega) (by omega) (Below.refl _ _) (Nat.le_refl _) ?_;intro v183 w16 ho17 hb hg_ hnew_;clear hg_ hnew_;(first|rw [← Ny182.out] at ho17|(simp only [Int.reduceToNat] at ho17;rw [← Ny182.out] at ho17));have n0_:=Aside0.mk (Kd.S_elder' (by (with_reducible repeat (first|apply Kd.S_alloc|apply Kd.S_drewN|apply Kd.S_drew));exact HO181.out) (Kd.R_base ho17) hb);have n1_:=Aside0.mk (Kd.R_lower ho17 (below_size (by repeat (first|(with_reducible first|exact HB.out|apply below_alloc|apply pw_below_drewN|apply below_drew1|refine below_set ?_ GE178.out)|exact HB.out))));have n2_:=Aside0.mk (blk_below (g:=gb178) (o:=.cells #[.slice A0_0 l0_0.length c0_0,.slice A0_1 l0_1.length c0_1,.slice A0_2 l0_2.length c0_2,.slice A0_3 l0_3.length c0_3] 30 (0,0)) (by (with_reducible repeat first|apply blk_drewN|apply blk_drew|apply blk_alloc);exact BK178.out) hb);have n3_:=Aside0.mk (below_step (by repeat (first|(with_reducible first|exact HB.out|apply below_alloc|apply pw_below_drewN|apply below_drew1|refine below_set ?_ GE178.out)|exact HB.out)) hb);clear HO181;clear BK178;clear HB;have HO181:=n0_;have HO184:=n1_;have BK178:=n2_;have HB:=n3_;clear n0_ n1_ n2_ n3_;clear hb ho17;have hcz18_0 : w16.cell? ⟨gb178,0,none⟩ = some (.slice A0_0 l0_0.length c0_0):=(blk_cell BK178.out 0).trans rfl;have hcz18_1 : w16.cell? ⟨gb178,1,none⟩ = some (.slice A0_1 l0_1.length c0_1):=(blk_cell BK178.out 1).trans rfl;have hcz18_2 : w16.cell? ⟨gb178,2,none⟩ = some (.slice A0_2 l0_2.length c0_2):=(blk_cell BK178.out 2).trans rfl;have hcz18_3 : w16.cell? ⟨gb178,3,none⟩ = some (.slice A0_3 l0_3.length c0_3):=(blk_cell BK178.out 3).trans rfl;have hfz18_0:=blk_frozen BK178.out 0;have hfz18_1:=blk_frozen BK178.out 1;have hfz18_2:=blk_frozen BK178.out 2;have hfz18_3:=blk_frozen BK178.out 3)|((with_reducible refine gate_callee (f:=58) rfl ?_);refine goesL_ (some 27) rfl rfl Try.func58 (by kernel_rfl) rfl #[.agg #[.slice A0_0 l0_0.length c0_0,.slice A0_1 l0_1.length c0_1,.slice A0_2 l0_2.length c0_2,.slice A0_3 l0_3.length c0_3],.int .i64 a1,.int .u8 80] rfl (by (try simp only [List.map_toArray,List.map_cons,List.map_nil]);first|done|rfl|(simp only [List.length_drop,List.length_take];rfl)) ?_;(with_reducible refine (spec_l6Numbers.calls k _ _ l0_0 _ _ l0_1 _ _ l0_2 _ _ l0_3 a1 80 t185 t188 _ ?side1 ?side2 ?side3 ?side4 ?side5 ?side6 ?side7 ?side8 A11.out).mono ?_);(case side1=>repeat (first|exact (Kd.C_below HR0_0.out HB.out)|(with_reducible first|apply Kd.C_alloc|apply Kd.C_drewN|apply Kd.C_drew)));(case side2=>exact HC0_0.out);(case side3=>repeat (first|exact (Kd.C_below HR0_1.out HB.out)|(with_reducible first|apply Kd.C_alloc|apply Kd.C_drewN|apply Kd.C_drew)));(case side4=>exact HC0_1.out);(case side5=>repeat (first|exact (Kd.C_below HR0_2.out HB.out)|(with_reducible first|apply Kd.C_alloc|apply Kd.C_drewN|apply Kd.C_drew)));(case side6=>exact HC0_2.out);(case side7=>repeat (first|exact (Kd.C_below HR0_3.out HB.out)|(with_reducible first|apply Kd.C_alloc|apply Kd.C_drewN|apply Kd.C_drew)));(case side8=>exact HC0_3.out);rintro e w19 ⟨v186,rfl,ho0,hb⟩;refine ⟨_,rfl,?_⟩;have n0_:=Aside0.mk (Kd.S_elder' (by (with_reducible repeat (first|apply Kd.S_alloc|apply Kd.S_drewN|apply Kd.S_drew));exact HO181.out) (Kd.R_base ho0) hb);have n1_:=Aside0.mk (Kd.R_lower (Kd.R_new' ho0 (Kd.R_lt (by (with_reducible repeat (first|apply Kd.R_alloc|apply Kd.R_drewN|apply Kd.R_drew));exact HO184.out))) (below_size (by repeat (first|(with_reducible first|exact HB.out|apply below_alloc|apply pw_below_drewN|apply below_drew1|refine below_set ?_ GE178.out)|exact HB.out))));have n2_:=Aside0.mk (blk_below (g:=gb178) (o:=.cells #[.slice A0_0 l0_0.length c0_0,.slice A0_1 l0_1.length c0_1,.slice A0_2 l0_2.length c0_2,.slice A0_3 l0_3.length c0_3] 30 (0,0)) (by (with_reducible repeat first|apply blk_drewN|apply blk_drew|apply blk_alloc);exact BK178.out) hb);have n3_:=Aside0.mk (below_step (by repeat (first|(with_reducible first|exact HB.out|apply below_alloc|apply pw_below_drewN|apply below_drew1|refine below_set ?_ GE178.out)|exact HB.out)) hb);clear HO181;clear BK178;clear HB;clear HO184;have HO181:=n0_;have HO187:=n1_;have BK178:=n2_;have HB:=n3_;clear n0_ n1_ n2_ n3_;(try clear hb);(try clear hb2);(try clear hk);(try clear hi);(try clear ho0)))
    (try simp only [Act.put,List.setIfInBounds_toArray,List.set_cons_zero,List.set_cons_succ])
    go_cut [36] (fun v36 wc=>∃ (kq : Nat) (x36_11 : Bool),v36 = .bool x36_11∧Aside0 (spec_l6Tree.j0 kq y179 t185 x36_11 l0_0 l0_1 l0_2 l0_3 = some (r1,r2,r3))∧Aside0 (kq ≤ k)∧Aside0 (Kd.S (Kd.slice 3 (Kd.int .i64)) 24 wc w.heap.size (fun k_=>some k_ ≠ (v186 : Value).ownBlock) v180 y179)∧Aside0 (Kd.R (Kd.int .i64) 3 wc w.heap.size (fun _=>True) v186 t185)∧Aside0 (wc.heap[gb178]? = some (.cells #[(.slice A0_0 l0_0.length c0_0),(.slice A0_1 l0_1.length c0_1),(.slice A0_2 l0_2.length c0_2),(.slice A0_3 l0_3.length c0_3)] 30 (0,0)))∧Aside0 (Below w.heap.size w wc))
    case first =>
     have H:=HC12.out
     clear HC12
     by_cases c20 : t188 = true
     ·subst c20
      have H1 : ((spec_l6Any.f k t185).bind fun t189=>(spec_l6Tree.j0 k y179 t185 (!t189) l0_0 l0_1 l0_2 l0_3)) = some (r1,r2,r3):=by rw [if_pos rfl] at H;exact H
      clear H
      have H:=H1
      clear H1
      replace H:=Option.bind_eq_some_iff.mp H
      obtain ⟨t189,A210,H⟩:=H
      replace H : (spec_l6Tree.j0 k y179 t185 (!t189) l0_0 l0_1 l0_2 l0_3) = some (r1,r2,r3):=H
      have A21:=Aside0.mk A210
      clear A210
      have H':=Aside0.mk H
      clear H
      obtain ⟨Ao22,co22,eo22⟩:=Kd.R_slice HO187.out
      subst eo22
      go_wp2_with (first|(go_at_call 59;(with_reducible refine (spec_l6Any.calls k _ _ t185 t189 _ ?side1 ?side2 A21.out).mono ?_);(case side1=>repeat (first|exact (Kd.R_reads' HO187.out).2.2|(with_reducible first|apply Kd.C_alloc|apply Kd.C_drewN|apply Kd.C_drew)));(case side2=>exact (Kd.R_reads' HO187.out).2.1);rintro e w' ⟨rfl,⟨nd,rfl⟩⟩))
      go_meet
      case rel=>exact ⟨_,(!t189),(by first|rfl|(simp;done)|(simp [*];done)),H',⟨by first|omega|exact Nat.le_refl _⟩,⟨by (with_reducible repeat (first|apply Kd.S_alloc|apply Kd.S_drewN|apply Kd.S_drew));exact Kd.S_mono HO181.out (fun _ hk=>hk.2)⟩,⟨by (with_reducible repeat (first|apply Kd.R_alloc|apply Kd.R_drewN|apply Kd.R_drew));exact Kd.R_mono HO187.out (fun _ hk=>trivial)⟩,⟨by (with_reducible repeat first|apply blk_drewN|apply blk_drew|apply blk_alloc);exact BK178.out⟩,⟨by repeat (first|(with_reducible first|exact HB.out|apply below_alloc|apply pw_below_drewN|apply below_drew1|refine below_set ?_ GE178.out)|exact HB.out)⟩⟩
     ·replace c20:=Bool.eq_false_iff.mpr c20
      subst c20
      have H1 : (spec_l6Tree.j0 k y179 t185 true l0_0 l0_1 l0_2 l0_3) = some (r1,r2,r3):=by rw [if_neg (show ¬ (false = true) by decide)] at H;exact H
      clear H
      have H:=H1
      clear H1
      have H':=Aside0.mk H
      clear H
      go_wp2
      go_meet
      case rel=>exact ⟨_,(true),(by first|rfl|(simp;done)|(simp [*];done)),H',⟨by first|omega|exact Nat.le_refl _⟩,⟨by (with_reducible repeat (first|apply Kd.S_alloc|apply Kd.S_drewN|apply Kd.S_drew));exact Kd.S_mono HO181.out (fun _ hk=>hk.2)⟩,⟨by (with_reducible repeat (first|apply Kd.R_alloc|apply Kd.R_drewN|apply Kd.R_drew));exact Kd.R_mono HO187.out (fun _ hk=>trivial)⟩,⟨by (with_reducible repeat first|apply blk_drewN|apply blk_drew|apply blk_alloc);exact BK178.out⟩,⟨by repeat (first|(with_reducible first|exact HB.out|apply below_alloc|apply pw_below_drewN|apply below_drew1|refine below_set ?_ GE178.out)|exact HB.out)⟩⟩
    case rest =>
     clear HC12
     try clear c2;try clear p2;try clear c3;try clear c3b0;try clear c3b1;try clear c4;try clear c4b0;try clear c4b1;try clear c5;try clear c5b0;try clear c5b1;try clear c20;try clear hcz18_0;try clear hcz18_1;try clear hcz18_2;try clear hcz18_3;try clear hfz18_0;try clear hfz18_1;try clear hfz18_2;try clear hfz18_3
     obtain ⟨kq,x36_11,rfl,HA,HJ11,HO_7,HO_8,BK178,HB⟩:=hcut
     cases kq with
     | zero=>exact absurd HA.out (by simp [spec_l6Tree.j0])
     | succ kj11 =>
      have H:=HA.out
      clear HA
      simp only [spec_l6Tree.j0] at H
      by_cases c23 : x36_11 = true
      ·subst c23
       have H1 : (some (([] : List (List Int)),([] : List Int),false)) = some (r1,r2,r3):=by rw [if_pos rfl] at H;exact H
       clear H
       have H:=H1
       clear H1
       simp only [Option.some.injEq,Prod.mk.injEq] at H
       obtain ⟨rfl,rfl,rfl⟩:=H
       go_wp2
       go_ret3
       exact ⟨_,_,by first|rfl|(simp [*,errW_none,errW_some] <;> rfl),by first|exact Kd.S_nil _ _ _ _ _|exact Kd.N_nil _ _ _ _ _|exact Kd.V_nil _ _ _ _ _|exact Kd.Q_nil _ _ _ _ _|exact Kd.R_nil _ _ _ _ _,by first|exact Kd.R_nil _ _ _ _ _|exact Kd.N_nil _ _ _ _ _|exact Kd.V_nil _ _ _ _ _|exact Kd.Q_nil _ _ _ _ _|exact Kd.S_nil _ _ _ _ _,by repeat (first|(with_reducible first|exact HB.out|apply below_alloc|apply pw_below_drewN|apply below_drew1|refine below_set ?_ GE178.out)|exact HB.out)⟩
      ·replace c23:=Bool.eq_false_iff.mpr c23
       subst c23
       have H1 : (spec_l6Tree.l0 kj11 y179 t185 t185 (t185.length : Int) 0 l0_0 l0_1 l0_2 l0_3) = some (r1,r2,r3):=by rw [if_neg (show ¬ (false = true) by decide)] at H;exact H
       clear H
       have H:=H1
       clear H1
       have H':=Aside0.mk H
       clear H
       obtain ⟨Ao24,co24,eo24⟩:=Kd.R_slice HO_8.out
       subst eo24
       go_wp2
       go_loopg [39] kj11 (fun kq v39 w'=>∃ (x7_2 : List (List Int)) (x39_2 : Int),v39 = .int .i64 x39_2∧Aside0 (spec_l6Tree.l0 kq x7_2 t185 t185 (t185.length : Int) x39_2 l0_0 l0_1 l0_2 l0_3 = some (r1,r2,r3))∧Aside0 (kq ≤ kj11)∧Aside0 (Kd.S (Kd.slice 3 (Kd.int .i64)) 24 w' w.heap.size (fun k_=>some k_ ≠ ((.slice Ao24 t185.length co24) : Value).ownBlock∧some k_ ≠ ((.slice Ao24 t185.length co24) : Value).ownBlock) v180 x7_2)∧Aside0 (Kd.R (Kd.int .i64) 3 w' w.heap.size (fun _=>True) (.slice Ao24 t185.length co24) t185)∧Aside0 (Kd.R (Kd.int .i64) 3 w' w.heap.size (fun _=>True) (.slice Ao24 t185.length co24) t185)∧Aside0 (w'.heap[gb178]? = some (.cells #[(.slice A0_0 l0_0.length c0_0),(.slice A0_1 l0_1.length c0_1),(.slice A0_2 l0_2.length c0_2),(.slice A0_3 l0_3.length c0_3)] 30 (0,0)))∧Aside0 (Below w.heap.size w w'))
       case atStart=>exact ⟨(y179),(0),(by first|rfl|(simp;done)|(simp [*];done)),H',⟨Nat.le_refl _⟩,⟨by (with_reducible repeat (first|apply Kd.S_alloc|apply Kd.S_drewN|apply Kd.S_drew));exact Kd.S_mono HO_7.out (fun _ hk=>⟨hk,hk⟩)⟩,⟨by (with_reducible repeat (first|apply Kd.R_alloc|apply Kd.R_drewN|apply Kd.R_drew));exact HO_8.out⟩,⟨by (with_reducible repeat (first|apply Kd.R_alloc|apply Kd.R_drewN|apply Kd.R_drew));exact HO_8.out⟩,⟨by (with_reducible repeat first|apply blk_drewN|apply blk_drew|apply blk_alloc);exact BK178.out⟩,⟨by repeat (first|(with_reducible first|exact HB.out|apply below_alloc|apply pw_below_drewN|apply below_drew1|refine below_set ?_ GE178.out)|exact HB.out)⟩⟩
       case round =>
        clear H'
        try clear c2;try clear p2;try clear c3;try clear c3b0;try clear c3b1;try clear c4;try clear c4b0;try clear c4b1;try clear c5;try clear c5b0;try clear c5b1;try clear c20;try clear c23;try clear hcz18_0;try clear hcz18_1;try clear hcz18_2;try clear hcz18_3;try clear hfz18_0;try clear hfz18_1;try clear hfz18_2;try clear hfz18_3;try clear p2
        obtain ⟨x7_2,x39_2,rfl,HA,HK2,HO_7,HO_8,HO_37,BK178,HB⟩:=hrel
        cases gk with
        | zero=>exact absurd HA.out (by simp [spec_l6Tree.l0])
        | succ k2 =>
         have H:=HA.out
         clear HA
         simp only [spec_l6Tree.l0] at H
         by_cases c25 : x39_2 < (t185.length : Int)
         ·rw [if_pos c25] at H
          have c25b0 : decide (x39_2 < (t185.length : Int)) = true:=decide_eq_true c25
          clear c25
          by_cases c26 : 0 ≤ x39_2
          ·rw [if_pos c26] at H
           have c26b0 : decide (0 ≤ x39_2) = true:=decide_eq_true c26
           clear c26
           by_cases c27 : x39_2 < (t185.length : Int)
           ·rw [if_pos c27] at H
            have c27b0 : decide (x39_2 < (t185.length : Int)) = true:=decide_eq_true c27
            clear c27
            by_cases c28 : (rd t185 x39_2) = 0
            ·rw [if_pos c28] at H
             have c28b0 : ((rd t185 x39_2) == 0) = true:=beq_iff_eq.mpr c28
             have c28b1 : ((rd t185 x39_2) != 0) = false:=bne_eq_false_iff_eq.mpr c28
             clear c28
             have H':=Aside0.mk H
             clear H
             have p190 : 0 ≤ (x39_2 : Int):=of_decide_eq_true (by assumption)
             have q190 : x39_2 < (t185.length : Int):=of_decide_eq_true (by assumption)
             obtain ⟨ad190,e190,hx190_0⟩:=Kd.at_int (Kd.R_reads' HO_37.out).2.2 x39_2 p190 q190
             cases e190
             replace p190:=eq_true p190
             replace q190:=eq_true q190
             go_wp2
             go_roundg k2
             case measure=>have:=HJ11.out;have:=HK2.out;omega
             case rel=>exact ⟨(x7_2),(wrap64 (x39_2 + 1)),(by first|rfl|(simp;done)|(simp [*];done)),H',⟨by have:=HJ11.out;have:=HK2.out;omega⟩,⟨by (with_reducible repeat (first|apply Kd.S_alloc|apply Kd.S_drewN|apply Kd.S_drew));exact HO_7.out⟩,⟨by (with_reducible repeat (first|apply Kd.R_alloc|apply Kd.R_drewN|apply Kd.R_drew));exact HO_8.out⟩,⟨by (with_reducible repeat (first|apply Kd.R_alloc|apply Kd.R_drewN|apply Kd.R_drew));exact HO_37.out⟩,⟨by (with_reducible repeat first|apply blk_drewN|apply blk_drew|apply blk_alloc);exact BK178.out⟩,⟨by repeat (first|(with_reducible first|exact HB.out|apply below_alloc|apply pw_below_drewN|apply below_drew1|refine below_set ?_ GE178.out)|exact HB.out)⟩⟩
            ·rw [if_neg c28] at H
             have c28b0 : ((rd t185 x39_2) == 0) = false:=beq_eq_false_iff_ne.mpr c28
             have c28b1 : ((rd t185 x39_2) != 0) = true:=bne_iff_ne.mpr c28
             have c29b0:=eq_true (of_decide_eq_true (by assumption) : 0 ≤ x39_2)
             by_cases c30 : x39_2 ≤ (t185.length : Int)
             ·rw [if_pos c30] at H
              have c30b0:=eq_true c30
              have c30b1 : decide (x39_2 ≤ (t185.length : Int)) = true:=decide_eq_true c30
              clear c30
              obtain ⟨y191,hy191⟩ : ∃ y_ : List Int,y_ = (t185.take (x39_2 : Int).toNat):=⟨_,rfl⟩
              replace H : (spec_l6Tree.l1 k2 x7_2 t185 x39_2 (rd t185 x39_2) t185 (t185.length : Int) x39_2 y191 (y191.length : Int) 0 l0_0 l0_1 l0_2 l0_3) = some (r1,r2,r3):=by first|(rw [hy191];with_reducible exact H)|(have H2_:=(Option.bind_some _ _).symm.trans H;rw [hy191];with_reducible exact H2_)|(have H2_:=(Option.bind_some _ _).symm.trans H;with_reducible exact H2_)|with_reducible exact H|(rw [hy191];exact H)|exact H
              have Ny191:=Aside0.mk hy191
              clear hy191
              have H':=Aside0.mk H
              clear H
              have p190 : 0 ≤ (x39_2 : Int):=of_decide_eq_true (by assumption)
              have q190 : x39_2 < (t185.length : Int):=of_decide_eq_true (by assumption)
              obtain ⟨ad190,e190,hx190_0⟩:=Kd.at_int (Kd.R_reads' HO_37.out).2.2 x39_2 p190 q190
              cases e190
              replace p190:=eq_true p190
              replace q190:=eq_true q190
              have q31 : (x39_2 : Int) ≤ ((t185.length : Int) : Int):=of_decide_eq_true (by assumption)
              obtain ⟨i031,hi031,_,hsz31,_⟩:=info_parts info3
              have hroom31 : t185.length ≤ co24:=(Kd.R_reads' HO_8.out).2.1
              have hC31 : Kd.C (Kd.int .i64) _ (some ad190) t185.length t185:=(Kd.R_reads' HO_8.out).2.2
              have hcut31:=cut_to (P:=Try.prog) 24 3 .i64 Try.underlying24 hi031 (some ad190) t185.length co24 x39_2 (of_decide_eq_true (by assumption)) q31 hroom31
              have hr31:=Kd.C_take (m:=(x39_2 : Int).toNat) hC31 (by omega)
              have hy31 : y191.length = (x39_2 : Int).toNat:=(by rw [Ny191.out,List.length_take];omega)
              rw [← Ny191.out] at hr31
              rw [← hy31] at hcut31
              have HR194:=Aside0.mk hr31
              have HC194:=Aside0.mk (show y191.length ≤ co24 from by omega)
              clear hr31 hC31 hroom31 hi031 hsz31
              have KY31:=Aside0.mk hy31
              clear hy31
              have KL31:=Aside0.mk (show (x39_2 : Int).toNat ≤ t185.length from by omega)
              replace q31:=eq_true q31
              go_wp2
              go_loopg [50] k2 (fun kq v50 w'=>∃ (x50_3 : Int),v50 = .int .i64 x50_3∧Aside0 (spec_l6Tree.l1 kq x7_2 t185 x39_2 (rd t185 x39_2) t185 (t185.length : Int) x39_2 y191 (y191.length : Int) x50_3 l0_0 l0_1 l0_2 l0_3 = some (r1,r2,r3))∧Aside0 (kq ≤ k2)∧Aside0 (Kd.S (Kd.slice 3 (Kd.int .i64)) 24 w' w.heap.size (fun k_=>some k_ ≠ ((.slice (some ad190) t185.length co24) : Value).ownBlock∧some k_ ≠ ((.slice (some ad190) t185.length co24) : Value).ownBlock) v180 x7_2)∧Aside0 (Kd.R (Kd.int .i64) 3 w' w.heap.size (fun _=>True) (.slice (some ad190) t185.length co24) t185)∧Aside0 (Kd.R (Kd.int .i64) 3 w' w.heap.size (fun _=>True) (.slice (some ad190) t185.length co24) t185)∧Aside0 (w'.heap[gb178]? = some (.cells #[(.slice A0_0 l0_0.length c0_0),(.slice A0_1 l0_1.length c0_1),(.slice A0_2 l0_2.length c0_2),(.slice A0_3 l0_3.length c0_3)] 30 (0,0)))∧Aside0 (Kd.C (Kd.int .i64) w' (some ad190) y191.length y191)∧Aside0 (Below w.heap.size w w'))
              case atStart=>exact ⟨(0),(by first|rfl|(simp;done)|(simp [*];done)),H',⟨Nat.le_refl _⟩,⟨by (with_reducible repeat (first|apply Kd.S_alloc|apply Kd.S_drewN|apply Kd.S_drew));exact HO_7.out⟩,⟨by (with_reducible repeat (first|apply Kd.R_alloc|apply Kd.R_drewN|apply Kd.R_drew));exact HO_8.out⟩,⟨by (with_reducible repeat (first|apply Kd.R_alloc|apply Kd.R_drewN|apply Kd.R_drew));exact HO_37.out⟩,⟨by (with_reducible repeat first|apply blk_drewN|apply blk_drew|apply blk_alloc);exact BK178.out⟩,⟨by repeat (first|(with_reducible exact HR194.out)|(with_reducible first|apply Kd.C_alloc|apply Kd.C_drewN|apply Kd.C_drew)|exact HR194.out)⟩,⟨by repeat (first|(with_reducible first|exact HB.out|apply below_alloc|apply pw_below_drewN|apply below_drew1|refine below_set ?_ GE178.out)|exact HB.out)⟩⟩
              case round =>
               clear H'
               try clear p1;try clear q1;try clear hx1;try clear c2;try clear p2;try clear c3;try clear c3b0;try clear c3b1;try clear q3;try clear c4;try clear c4b0;try clear c4b1;try clear c5;try clear c5b0;try clear c5b1;try clear p6;try clear p19;try clear q19;try clear hx19;try clear c20;try clear c23;try clear c25;try clear c25b0;try clear c26;try clear c26b0;try clear c27;try clear c27b0;try clear c28;try clear c28b0;try clear c28b1;try clear c29;try clear c29b0;try clear c30;try clear c30b0;try clear c30b1;try clear q31;try clear hcz18_0;try clear hcz18_1;try clear hcz18_2;try clear hcz18_3;try clear hfz18_0;try clear hfz18_1;try clear hfz18_2;try clear hfz18_3;try clear hx190_0;try clear p190;try clear p2;try clear q190;try clear q31
               obtain ⟨x50_3,rfl,HA,HK3,HO_7,HO_8,HO_37,BK178,HR194,HB⟩:=hrel
               cases gk with
               | zero=>exact absurd HA.out (by simp [spec_l6Tree.l1])
               | succ k3 =>
                have H:=HA.out
                clear HA
                simp only [spec_l6Tree.l1] at H
                by_cases c32 : x50_3 < (y191.length : Int)
                ·rw [if_pos c32] at H
                 have c32b0 : decide (x50_3 < (y191.length : Int)) = true:=decide_eq_true c32
                 clear c32
                 by_cases c33 : 0 ≤ x50_3
                 ·rw [if_pos c33] at H
                  have c33b0 : decide (0 ≤ x50_3) = true:=decide_eq_true c33
                  clear c33
                  by_cases c34 : x50_3 < (y191.length : Int)
                  ·rw [if_pos c34] at H
                   have c34b0 : decide (x50_3 < (y191.length : Int)) = true:=decide_eq_true c34
                   clear c34
                   by_cases c35 : (rd y191 x50_3) = (rd t185 x39_2)
                   ·rw [if_pos c35] at H
                    have c35b0 : ((rd y191 x50_3) == (rd t185 x39_2)) = true:=beq_iff_eq.mpr c35
                    have c35b1 : ((rd y191 x50_3) != (rd t185 x39_2)) = false:=bne_eq_false_iff_eq.mpr c35
                    clear c35
                    simp only [Option.some.injEq,Prod.mk.injEq] at H
                    obtain ⟨rfl,rfl,rfl⟩:=H
                    have p195 : 0 ≤ (x50_3 : Int):=of_decide_eq_true (by assumption)
                    have q195 : x50_3 < (y191.length : Int):=of_decide_eq_true (by assumption)
                    obtain ⟨ad195,e195,hx195_0⟩:=Kd.at_int HR194.out x50_3 p195 q195
                    obtain rfl : ad190 = ad195:=(by injection e195)
                    (try replace hx195_0:=(HB.out.cell (World.block_lt_of_cell? w _ hx195_0)).trans hx195_0)
                    replace p195:=eq_true p195
                    replace q195:=eq_true q195
                    go_wp2
                    go_ret3
                    exact ⟨_,_,by first|rfl|(simp [*,errW_none,errW_some] <;> rfl),by first|exact Kd.S_nil _ _ _ _ _|exact Kd.N_nil _ _ _ _ _|exact Kd.V_nil _ _ _ _ _|exact Kd.Q_nil _ _ _ _ _|exact Kd.R_nil _ _ _ _ _,by first|exact Kd.R_nil _ _ _ _ _|exact Kd.N_nil _ _ _ _ _|exact Kd.V_nil _ _ _ _ _|exact Kd.Q_nil _ _ _ _ _|exact Kd.S_nil _ _ _ _ _,by repeat (first|(with_reducible first|exact HB.out|apply below_alloc|apply pw_below_drewN|apply below_drew1|refine below_set ?_ GE178.out)|exact HB.out)⟩
                   ·rw [if_neg c35] at H
                    have c35b0 : ((rd y191 x50_3) == (rd t185 x39_2)) = false:=beq_eq_false_iff_ne.mpr c35
                    have c35b1 : ((rd y191 x50_3) != (rd t185 x39_2)) = true:=bne_iff_ne.mpr c35
                    have H':=Aside0.mk H
                    clear H
                    have p195 : 0 ≤ (x50_3 : Int):=of_decide_eq_true (by assumption)
                    have q195 : x50_3 < (y191.length : Int):=of_decide_eq_true (by assumption)
                    obtain ⟨ad195,e195,hx195_0⟩:=Kd.at_int HR194.out x50_3 p195 q195
                    obtain rfl : ad190 = ad195:=(by injection e195)
                    (try replace hx195_0:=(HB.out.cell (World.block_lt_of_cell? w _ hx195_0)).trans hx195_0)
                    replace p195:=eq_true p195
                    replace q195:=eq_true q195
                    go_wp2
                    go_roundg k3
                    case measure=>have:=HJ11.out;have:=HK2.out;have:=HK3.out;omega
                    case rel=>exact ⟨(wrap64 (x50_3 + 1)),(by first|rfl|(simp;done)|(simp [*];done)),H',⟨by have:=HJ11.out;have:=HK2.out;have:=HK3.out;omega⟩,⟨by (with_reducible repeat (first|apply Kd.S_alloc|apply Kd.S_drewN|apply Kd.S_drew));exact HO_7.out⟩,⟨by (with_reducible repeat (first|apply Kd.R_alloc|apply Kd.R_drewN|apply Kd.R_drew));exact HO_8.out⟩,⟨by (with_reducible repeat (first|apply Kd.R_alloc|apply Kd.R_drewN|apply Kd.R_drew));exact HO_37.out⟩,⟨by (with_reducible repeat first|apply blk_drewN|apply blk_drew|apply blk_alloc);exact BK178.out⟩,⟨by repeat (first|(with_reducible exact HR194.out)|(with_reducible first|apply Kd.C_alloc|apply Kd.C_drewN|apply Kd.C_drew)|exact HR194.out)⟩,⟨by repeat (first|(with_reducible first|exact HB.out|apply below_alloc|apply pw_below_drewN|apply below_drew1|refine below_set ?_ GE178.out)|exact HB.out)⟩⟩
                  ·rw [if_neg c34] at H
                   exact absurd H (by simp)
                 ·rw [if_neg c33] at H
                  exact absurd H (by simp)
                ·rw [if_neg c32] at H
                 have c32b0 : decide (x50_3 < (y191.length : Int)) = false:=decide_eq_false c32
                 clear c32
                 replace H:=Option.bind_eq_some_iff.mp H
                 obtain ⟨⟨t196,t199⟩,A360,H⟩:=H
                 replace H : (if t199 = true then ((spec_l6Any.f k3 t196).bind fun t200=>(spec_l6Tree.j3 k3 x7_2 t185 x39_2 t196 t185 (t185.length : Int) x39_2 (!t200) l0_0 l0_1 l0_2 l0_3)) else (spec_l6Tree.j3 k3 x7_2 t185 x39_2 t196 t185 (t185.length : Int) x39_2 true l0_0 l0_1 l0_2 l0_3)) = some (r1,r2,r3):=H
                 have A36:=Aside0.mk A360
                 clear A360
                 have HC37:=Aside0.mk H
                 clear H
                 have hcz38_0 : wr.cell? ⟨gb178,0,none⟩ = some (.slice A0_0 l0_0.length c0_0):=(blk_cell BK178.out 0).trans rfl
                 have hcz38_1 : wr.cell? ⟨gb178,1,none⟩ = some (.slice A0_1 l0_1.length c0_1):=(blk_cell BK178.out 1).trans rfl
                 have hcz38_2 : wr.cell? ⟨gb178,2,none⟩ = some (.slice A0_2 l0_2.length c0_2):=(blk_cell BK178.out 2).trans rfl
                 have hcz38_3 : wr.cell? ⟨gb178,3,none⟩ = some (.slice A0_3 l0_3.length c0_3):=(blk_cell BK178.out 3).trans rfl
                 have hfz38_0:=blk_frozen BK178.out 0
                 have hfz38_1:=blk_frozen BK178.out 1
                 have hfz38_2:=blk_frozen BK178.out 2
                 have hfz38_3:=blk_frozen BK178.out 3
                 go_upto_region 19 with (first|((with_reducible refine gate_callee (f:=58) rfl ?_);refine goesL_ (some 61) rfl rfl Try.func58 (by kernel_rfl) rfl #[.agg #[.slice A0_0 l0_0.length c0_0,.slice A0_1 l0_1.length c0_1,.slice A0_2 l0_2.length c0_2,.slice A0_3 l0_3.length c0_3],.int .i64 (rd t185 x39_2),.int .u8 81] rfl (by (try simp only [List.map_toArray,List.map_cons,List.map_nil]);first|done|rfl|(simp only [List.length_drop,List.length_take];rfl)) ?_;(with_reducible refine (spec_l6Numbers.calls k3 _ _ l0_0 _ _ l0_1 _ _ l0_2 _ _ l0_3 (rd t185 x39_2) 81 t196 t199 _ ?side1 ?side2 ?side3 ?side4 ?side5 ?side6 ?side7 ?side8 A36.out).mono ?_);(case side1=>repeat (first|exact (Kd.C_below HR0_0.out HB.out)|(with_reducible first|apply Kd.C_alloc|apply Kd.C_drewN|apply Kd.C_drew)));(case side2=>exact HC0_0.out);(case side3=>repeat (first|exact (Kd.C_below HR0_1.out HB.out)|(with_reducible first|apply Kd.C_alloc|apply Kd.C_drewN|apply Kd.C_drew)));(case side4=>exact HC0_1.out);(case side5=>repeat (first|exact (Kd.C_below HR0_2.out HB.out)|(with_reducible first|apply Kd.C_alloc|apply Kd.C_drewN|apply Kd.C_drew)));(case side6=>exact HC0_2.out);(case side7=>repeat (first|exact (Kd.C_below HR0_3.out HB.out)|(with_reducible first|apply Kd.C_alloc|apply Kd.C_drewN|apply Kd.C_drew)));(case side8=>exact HC0_3.out);rintro e w39 ⟨v197,rfl,ho0,hb⟩;refine ⟨_,rfl,?_⟩;have n0_:=Aside0.mk (Kd.S_elder' (by (with_reducible repeat (first|apply Kd.S_alloc|apply Kd.S_drewN|apply Kd.S_drew));exact HO_7.out) (Kd.R_base ho0) hb);have n1_:=Aside0.mk (Kd.R_elder' (by (with_reducible repeat (first|apply Kd.R_alloc|apply Kd.R_drewN|apply Kd.R_drew));exact HO_8.out) (Kd.R_base ho0) hb);have n2_:=Aside0.mk (Kd.R_elder' (by (with_reducible repeat (first|apply Kd.R_alloc|apply Kd.R_drewN|apply Kd.R_drew));exact HO_37.out) (Kd.R_base ho0) hb);have n3_:=Aside0.mk (Kd.R_lower (Kd.R_new' (Kd.R_new' ho0 (Kd.R_lt (by (with_reducible repeat (first|apply Kd.R_alloc|apply Kd.R_drewN|apply Kd.R_drew));exact HO_8.out))) (Kd.R_lt (by (with_reducible repeat (first|apply Kd.R_alloc|apply Kd.R_drewN|apply Kd.R_drew));exact HO_37.out))) (below_size (by repeat (first|(with_reducible first|exact HB.out|apply below_alloc|apply pw_below_drewN|apply below_drew1|refine below_set ?_ GE178.out)|exact HB.out))));have n4_:=Aside0.mk (blk_below (g:=gb178) (o:=.cells #[.slice A0_0 l0_0.length c0_0,.slice A0_1 l0_1.length c0_1,.slice A0_2 l0_2.length c0_2,.slice A0_3 l0_3.length c0_3] 30 (0,0)) (by (with_reducible repeat first|apply blk_drewN|apply blk_drew|apply blk_alloc);exact BK178.out) hb);have n5_:=Aside0.mk (below_step (by repeat (first|(with_reducible first|exact HB.out|apply below_alloc|apply pw_below_drewN|apply below_drew1|refine below_set ?_ GE178.out)|exact HB.out)) hb);clear HO_7;clear HO_8;clear HO_37;clear BK178;clear HB;have HO_7:=n0_;have HO_8:=n1_;have HO_37:=n2_;have HO198:=n3_;have BK178:=n4_;have HB:=n5_;clear n0_ n1_ n2_ n3_ n4_ n5_;(try clear hb);(try clear hb2);(try clear hk);(try clear hi);(try clear ho0)))
                 (try simp only [Act.put,List.setIfInBounds_toArray,List.set_cons_zero,List.set_cons_succ])
                 go_cut [70] (fun v70 wc=>∃ (kq : Nat) (x70_36 : Bool),v70 = .bool x70_36∧Aside0 (spec_l6Tree.j3 kq x7_2 t185 x39_2 t196 t185 (t185.length : Int) x39_2 x70_36 l0_0 l0_1 l0_2 l0_3 = some (r1,r2,r3))∧Aside0 (kq ≤ k3)∧Aside0 (Kd.S (Kd.slice 3 (Kd.int .i64)) 24 wc w.heap.size (fun k_=>some k_ ≠ ((.slice (some ad190) t185.length co24) : Value).ownBlock∧some k_ ≠ (v197 : Value).ownBlock∧some k_ ≠ ((.slice (some ad190) t185.length co24) : Value).ownBlock) v180 x7_2)∧Aside0 (Kd.R (Kd.int .i64) 3 wc w.heap.size (fun k_=>some k_ ≠ (v197 : Value).ownBlock) (.slice (some ad190) t185.length co24) t185)∧Aside0 (Kd.R (Kd.int .i64) 3 wc w.heap.size (fun k_=>some k_ ≠ ((.slice (some ad190) t185.length co24) : Value).ownBlock∧some k_ ≠ ((.slice (some ad190) t185.length co24) : Value).ownBlock) v197 t196)∧Aside0 (Kd.R (Kd.int .i64) 3 wc w.heap.size (fun k_=>some k_ ≠ (v197 : Value).ownBlock) (.slice (some ad190) t185.length co24) t185)∧Aside0 (wc.heap[gb178]? = some (.cells #[(.slice A0_0 l0_0.length c0_0),(.slice A0_1 l0_1.length c0_1),(.slice A0_2 l0_2.length c0_2),(.slice A0_3 l0_3.length c0_3)] 30 (0,0)))∧Aside0 (Below w.heap.size w wc))
                 case first =>
                  have H:=HC37.out
                  clear HC37
                  by_cases c40 : t199 = true
                  ·subst c40
                   have H1 : ((spec_l6Any.f k3 t196).bind fun t200=>(spec_l6Tree.j3 k3 x7_2 t185 x39_2 t196 t185 (t185.length : Int) x39_2 (!t200) l0_0 l0_1 l0_2 l0_3)) = some (r1,r2,r3):=by rw [if_pos rfl] at H;exact H
                   clear H
                   have H:=H1
                   clear H1
                   replace H:=Option.bind_eq_some_iff.mp H
                   obtain ⟨t200,A410,H⟩:=H
                   replace H : (spec_l6Tree.j3 k3 x7_2 t185 x39_2 t196 t185 (t185.length : Int) x39_2 (!t200) l0_0 l0_1 l0_2 l0_3) = some (r1,r2,r3):=H
                   have A41:=Aside0.mk A410
                   clear A410
                   have H':=Aside0.mk H
                   clear H
                   obtain ⟨Ao42,co42,eo42⟩:=Kd.R_slice HO198.out
                   subst eo42
                   go_wp2_with (first|(go_at_call 59;(with_reducible refine (spec_l6Any.calls k3 _ _ t196 t200 _ ?side1 ?side2 A41.out).mono ?_);(case side1=>repeat (first|exact (Kd.R_reads' HO198.out).2.2|(with_reducible first|apply Kd.C_alloc|apply Kd.C_drewN|apply Kd.C_drew)));(case side2=>exact (Kd.R_reads' HO198.out).2.1);rintro e w' ⟨rfl,⟨nd,rfl⟩⟩))
                   go_meet
                   case rel=>exact ⟨_,(!t200),(by first|rfl|(simp;done)|(simp [*];done)),H',⟨by have:=HJ11.out;have:=HK2.out;have:=HK3.out;first|omega|exact Nat.le_refl _⟩,⟨by (with_reducible repeat (first|apply Kd.S_alloc|apply Kd.S_drewN|apply Kd.S_drew));exact Kd.S_mono HO_7.out (fun _ hk=>⟨hk.1.1,⟨hk.2,hk.1.2⟩⟩)⟩,⟨by (with_reducible repeat (first|apply Kd.R_alloc|apply Kd.R_drewN|apply Kd.R_drew));exact Kd.R_mono HO_8.out (fun _ hk=>hk.2)⟩,⟨by (with_reducible repeat (first|apply Kd.R_alloc|apply Kd.R_drewN|apply Kd.R_drew));exact Kd.R_mono HO198.out (fun _ hk=>⟨hk.1.2,hk.2⟩)⟩,⟨by (with_reducible repeat (first|apply Kd.R_alloc|apply Kd.R_drewN|apply Kd.R_drew));exact Kd.R_mono HO_37.out (fun _ hk=>hk.2)⟩,⟨by (with_reducible repeat first|apply blk_drewN|apply blk_drew|apply blk_alloc);exact BK178.out⟩,⟨by repeat (first|(with_reducible first|exact HB.out|apply below_alloc|apply pw_below_drewN|apply below_drew1|refine below_set ?_ GE178.out)|exact HB.out)⟩⟩
                  ·replace c40:=Bool.eq_false_iff.mpr c40
                   subst c40
                   have H1 : (spec_l6Tree.j3 k3 x7_2 t185 x39_2 t196 t185 (t185.length : Int) x39_2 true l0_0 l0_1 l0_2 l0_3) = some (r1,r2,r3):=by rw [if_neg (show ¬ (false = true) by decide)] at H;exact H
                   clear H
                   have H:=H1
                   clear H1
                   have H':=Aside0.mk H
                   clear H
                   go_wp2
                   go_meet
                   case rel=>exact ⟨_,(true),(by first|rfl|(simp;done)|(simp [*];done)),H',⟨by have:=HJ11.out;have:=HK2.out;have:=HK3.out;first|omega|exact Nat.le_refl _⟩,⟨by (with_reducible repeat (first|apply Kd.S_alloc|apply Kd.S_drewN|apply Kd.S_drew));exact Kd.S_mono HO_7.out (fun _ hk=>⟨hk.1.1,⟨hk.2,hk.1.2⟩⟩)⟩,⟨by (with_reducible repeat (first|apply Kd.R_alloc|apply Kd.R_drewN|apply Kd.R_drew));exact Kd.R_mono HO_8.out (fun _ hk=>hk.2)⟩,⟨by (with_reducible repeat (first|apply Kd.R_alloc|apply Kd.R_drewN|apply Kd.R_drew));exact Kd.R_mono HO198.out (fun _ hk=>⟨hk.1.2,hk.2⟩)⟩,⟨by (with_reducible repeat (first|apply Kd.R_alloc|apply Kd.R_drewN|apply Kd.R_drew));exact Kd.R_mono HO_37.out (fun _ hk=>hk.2)⟩,⟨by (with_reducible repeat first|apply blk_drewN|apply blk_drew|apply blk_alloc);exact BK178.out⟩,⟨by repeat (first|(with_reducible first|exact HB.out|apply below_alloc|apply pw_below_drewN|apply below_drew1|refine below_set ?_ GE178.out)|exact HB.out)⟩⟩
                 case rest =>
                  clear HC37
                  try clear p1;try clear q1;try clear hx1;try clear c2;try clear p2;try clear c3;try clear c3b0;try clear c3b1;try clear q3;try clear c4;try clear c4b0;try clear c4b1;try clear c5;try clear c5b0;try clear c5b1;try clear p6;try clear p19;try clear q19;try clear hx19;try clear c20;try clear c23;try clear c25;try clear c25b0;try clear c26;try clear c26b0;try clear c27;try clear c27b0;try clear c28;try clear c28b0;try clear c28b1;try clear c29;try clear c29b0;try clear c30;try clear c30b0;try clear c30b1;try clear q31;try clear c32;try clear c32b0;try clear c33;try clear c33b0;try clear c34;try clear c34b0;try clear c35;try clear c35b0;try clear c35b1;try clear c40;try clear hcz18_0;try clear hcz18_1;try clear hcz18_2;try clear hcz18_3;try clear hcz38_0;try clear hcz38_1;try clear hcz38_2;try clear hcz38_3;try clear hfz18_0;try clear hfz18_1;try clear hfz18_2;try clear hfz18_3;try clear hfz38_0;try clear hfz38_1;try clear hfz38_2;try clear hfz38_3;try clear hx190_0;try clear hx195_0;try clear p1;try clear p19;try clear p190;try clear p195;try clear p2;try clear p6;try clear q1;try clear q19;try clear q190;try clear q195;try clear q3;try clear q31
                  obtain ⟨kq,x70_36,rfl,HA,HJ36,HO_7,HO_8,HO_14,HO_37,BK178,HB⟩:=hcut
                  cases kq with
                  | zero=>exact absurd HA.out (by simp [spec_l6Tree.j3])
                  | succ kj36 =>
                   have H:=HA.out
                   clear HA
                   simp only [spec_l6Tree.j3] at H
                   by_cases c43 : x70_36 = true
                   ·subst c43
                    have H1 : (some (([] : List (List Int)),([] : List Int),false)) = some (r1,r2,r3):=by rw [if_pos rfl] at H;exact H
                    clear H
                    have H:=H1
                    clear H1
                    simp only [Option.some.injEq,Prod.mk.injEq] at H
                    obtain ⟨rfl,rfl,rfl⟩:=H
                    go_wp2
                    go_ret3
                    exact ⟨_,_,by first|rfl|(simp [*,errW_none,errW_some] <;> rfl),by first|exact Kd.S_nil _ _ _ _ _|exact Kd.N_nil _ _ _ _ _|exact Kd.V_nil _ _ _ _ _|exact Kd.Q_nil _ _ _ _ _|exact Kd.R_nil _ _ _ _ _,by first|exact Kd.R_nil _ _ _ _ _|exact Kd.N_nil _ _ _ _ _|exact Kd.V_nil _ _ _ _ _|exact Kd.Q_nil _ _ _ _ _|exact Kd.S_nil _ _ _ _ _,by repeat (first|(with_reducible first|exact HB.out|apply below_alloc|apply pw_below_drewN|apply below_drew1|refine below_set ?_ GE178.out)|exact HB.out)⟩
                   ·replace c43:=Bool.eq_false_iff.mpr c43
                    subst c43
                    have H1 : (spec_l6Tree.l2 kj36 x7_2 t185 x39_2 t196 t185 (t185.length : Int) x39_2 t196 (t196.length : Int) 0 l0_0 l0_1 l0_2 l0_3) = some (r1,r2,r3):=by rw [if_neg (show ¬ (false = true) by decide)] at H;exact H
                    clear H
                    have H:=H1
                    clear H1
                    have H':=Aside0.mk H
                    clear H
                    obtain ⟨Ao44,co44,eo44⟩:=Kd.R_slice HO_14.out
                    subst eo44
                    go_wp2
                    go_loopg [73] kj36 (fun kq v73 w'=>∃ (x73_5 : Int),v73 = .int .i64 x73_5∧Aside0 (spec_l6Tree.l2 kq x7_2 t185 x39_2 t196 t185 (t185.length : Int) x39_2 t196 (t196.length : Int) x73_5 l0_0 l0_1 l0_2 l0_3 = some (r1,r2,r3))∧Aside0 (kq ≤ kj36)∧Aside0 (Kd.S (Kd.slice 3 (Kd.int .i64)) 24 w' w.heap.size (fun k_=>some k_ ≠ ((.slice (some ad190) t185.length co24) : Value).ownBlock∧some k_ ≠ ((.slice Ao44 t196.length co44) : Value).ownBlock∧some k_ ≠ ((.slice (some ad190) t185.length co24) : Value).ownBlock∧some k_ ≠ ((.slice Ao44 t196.length co44) : Value).ownBlock) v180 x7_2)∧Aside0 (Kd.R (Kd.int .i64) 3 w' w.heap.size (fun k_=>some k_ ≠ ((.slice Ao44 t196.length co44) : Value).ownBlock∧some k_ ≠ ((.slice Ao44 t196.length co44) : Value).ownBlock) (.slice (some ad190) t185.length co24) t185)∧Aside0 (Kd.R (Kd.int .i64) 3 w' w.heap.size (fun k_=>some k_ ≠ ((.slice (some ad190) t185.length co24) : Value).ownBlock∧some k_ ≠ ((.slice (some ad190) t185.length co24) : Value).ownBlock) (.slice Ao44 t196.length co44) t196)∧Aside0 (Kd.R (Kd.int .i64) 3 w' w.heap.size (fun k_=>some k_ ≠ ((.slice Ao44 t196.length co44) : Value).ownBlock∧some k_ ≠ ((.slice Ao44 t196.length co44) : Value).ownBlock) (.slice (some ad190) t185.length co24) t185)∧Aside0 (Kd.R (Kd.int .i64) 3 w' w.heap.size (fun k_=>some k_ ≠ ((.slice (some ad190) t185.length co24) : Value).ownBlock∧some k_ ≠ ((.slice (some ad190) t185.length co24) : Value).ownBlock) (.slice Ao44 t196.length co44) t196)∧Aside0 (w'.heap[gb178]? = some (.cells #[(.slice A0_0 l0_0.length c0_0),(.slice A0_1 l0_1.length c0_1),(.slice A0_2 l0_2.length c0_2),(.slice A0_3 l0_3.length c0_3)] 30 (0,0)))∧Aside0 (Below w.heap.size w w'))
                    case atStart=>exact ⟨(0),(by first|rfl|(simp;done)|(simp [*];done)),H',⟨Nat.le_refl _⟩,⟨by (with_reducible repeat (first|apply Kd.S_alloc|apply Kd.S_drewN|apply Kd.S_drew));exact Kd.S_mono HO_7.out (fun _ hk=>⟨hk.1,⟨hk.2.1,⟨hk.2.2,hk.2.1⟩⟩⟩)⟩,⟨by (with_reducible repeat (first|apply Kd.R_alloc|apply Kd.R_drewN|apply Kd.R_drew));exact Kd.R_mono HO_8.out (fun _ hk=>⟨hk,hk⟩)⟩,⟨by (with_reducible repeat (first|apply Kd.R_alloc|apply Kd.R_drewN|apply Kd.R_drew));exact HO_14.out⟩,⟨by (with_reducible repeat (first|apply Kd.R_alloc|apply Kd.R_drewN|apply Kd.R_drew));exact Kd.R_mono HO_37.out (fun _ hk=>⟨hk,hk⟩)⟩,⟨by (with_reducible repeat (first|apply Kd.R_alloc|apply Kd.R_drewN|apply Kd.R_drew));exact HO_14.out⟩,⟨by (with_reducible repeat first|apply blk_drewN|apply blk_drew|apply blk_alloc);exact BK178.out⟩,⟨by repeat (first|(with_reducible first|exact HB.out|apply below_alloc|apply pw_below_drewN|apply below_drew1|refine below_set ?_ GE178.out)|exact HB.out)⟩⟩
                    case round =>
                     clear H'
                     try clear p1;try clear q1;try clear hx1;try clear c2;try clear p2;try clear c3;try clear c3b0;try clear c3b1;try clear q3;try clear c4;try clear c4b0;try clear c4b1;try clear c5;try clear c5b0;try clear c5b1;try clear p6;try clear p19;try clear q19;try clear hx19;try clear c20;try clear c23;try clear c25;try clear c25b0;try clear c26;try clear c26b0;try clear c27;try clear c27b0;try clear c28;try clear c28b0;try clear c28b1;try clear c29;try clear c29b0;try clear c30;try clear c30b0;try clear c30b1;try clear q31;try clear c32;try clear c32b0;try clear c33;try clear c33b0;try clear c34;try clear c34b0;try clear c35;try clear c35b0;try clear c35b1;try clear c40;try clear c43;try clear hcz18_0;try clear hcz18_1;try clear hcz18_2;try clear hcz18_3;try clear hcz38_0;try clear hcz38_1;try clear hcz38_2;try clear hcz38_3;try clear hfz18_0;try clear hfz18_1;try clear hfz18_2;try clear hfz18_3;try clear hfz38_0;try clear hfz38_1;try clear hfz38_2;try clear hfz38_3;try clear hx190_0;try clear hx195_0;try clear p1;try clear p19;try clear p190;try clear p195;try clear p2;try clear p6;try clear q1;try clear q19;try clear q190;try clear q195;try clear q3;try clear q31
                     obtain ⟨x73_5,rfl,HA,HK5,HO_7,HO_8,HO_14,HO_37,HO_71,BK178,HB⟩:=hrel
                     cases gk with
                     | zero=>exact absurd HA.out (by simp [spec_l6Tree.l2])
                     | succ k5 =>
                      have H:=HA.out
                      clear HA
                      simp only [spec_l6Tree.l2] at H
                      by_cases c45 : x73_5 < (t196.length : Int)
                      ·rw [if_pos c45] at H
                       have c45b0 : decide (x73_5 < (t196.length : Int)) = true:=decide_eq_true c45
                       clear c45
                       by_cases c46 : 0 ≤ x73_5
                       ·rw [if_pos c46] at H
                        have c46b0 : decide (0 ≤ x73_5) = true:=decide_eq_true c46
                        clear c46
                        by_cases c47 : x73_5 < (t196.length : Int)
                        ·rw [if_pos c47] at H
                         have c47b0 : decide (x73_5 < (t196.length : Int)) = true:=decide_eq_true c47
                         clear c47
                         by_cases c48 : (rd t196 x73_5) = 0
                         ·rw [if_pos c48] at H
                          have c48b0 : ((rd t196 x73_5) == 0) = true:=beq_iff_eq.mpr c48
                          have c48b1 : ((rd t196 x73_5) != 0) = false:=bne_eq_false_iff_eq.mpr c48
                          clear c48
                          have H':=Aside0.mk H
                          clear H
                          have p201 : 0 ≤ (x73_5 : Int):=of_decide_eq_true (by assumption)
                          have q201 : x73_5 < (t196.length : Int):=of_decide_eq_true (by assumption)
                          obtain ⟨ad201,e201,hx201_0⟩:=Kd.at_int (Kd.R_reads' HO_71.out).2.2 x73_5 p201 q201
                          cases e201
                          replace p201:=eq_true p201
                          replace q201:=eq_true q201
                          go_wp2
                          go_roundg k5
                          case measure=>have:=HJ11.out;have:=HK2.out;have:=HK3.out;have:=HJ36.out;have:=HK5.out;omega
                          case rel=>exact ⟨(wrap64 (x73_5 + 1)),(by first|rfl|(simp;done)|(simp [*];done)),H',⟨by have:=HJ11.out;have:=HK2.out;have:=HK3.out;have:=HJ36.out;have:=HK5.out;omega⟩,⟨by (with_reducible repeat (first|apply Kd.S_alloc|apply Kd.S_drewN|apply Kd.S_drew));exact HO_7.out⟩,⟨by (with_reducible repeat (first|apply Kd.R_alloc|apply Kd.R_drewN|apply Kd.R_drew));exact HO_8.out⟩,⟨by (with_reducible repeat (first|apply Kd.R_alloc|apply Kd.R_drewN|apply Kd.R_drew));exact HO_14.out⟩,⟨by (with_reducible repeat (first|apply Kd.R_alloc|apply Kd.R_drewN|apply Kd.R_drew));exact HO_37.out⟩,⟨by (with_reducible repeat (first|apply Kd.R_alloc|apply Kd.R_drewN|apply Kd.R_drew));exact HO_71.out⟩,⟨by (with_reducible repeat first|apply blk_drewN|apply blk_drew|apply blk_alloc);exact BK178.out⟩,⟨by repeat (first|(with_reducible first|exact HB.out|apply below_alloc|apply pw_below_drewN|apply below_drew1|refine below_set ?_ GE178.out)|exact HB.out)⟩⟩
                         ·rw [if_neg c48] at H
                          have c48b0 : ((rd t196 x73_5) == 0) = false:=beq_eq_false_iff_ne.mpr c48
                          have c48b1 : ((rd t196 x73_5) != 0) = true:=bne_iff_ne.mpr c48
                          replace H:=Option.bind_eq_some_iff.mp H
                          obtain ⟨t202,A490,H⟩:=H
                          replace H : (if t202 = true then (spec_l6Tree.l2 k5 x7_2 t185 x39_2 t196 t185 (t185.length : Int) x39_2 t196 (t196.length : Int) (wrap64 (x73_5 + 1)) l0_0 l0_1 l0_2 l0_3) else (some (([] : List (List Int)),([] : List Int),false))) = some (r1,r2,r3):=H
                          have A49:=Aside0.mk A490
                          clear A490
                          by_cases c50 : t202 = true
                          ·subst c50
                           have H1 : (spec_l6Tree.l2 k5 x7_2 t185 x39_2 t196 t185 (t185.length : Int) x39_2 t196 (t196.length : Int) (wrap64 (x73_5 + 1)) l0_0 l0_1 l0_2 l0_3) = some (r1,r2,r3):=by rw [if_pos rfl] at H;exact H
                           clear H
                           have H:=H1
                           clear H1
                           have H':=Aside0.mk H
                           clear H
                           have p201 : 0 ≤ (x73_5 : Int):=of_decide_eq_true (by assumption)
                           have q201 : x73_5 < (t196.length : Int):=of_decide_eq_true (by assumption)
                           obtain ⟨ad201,e201,hx201_0⟩:=Kd.at_int (Kd.R_reads' HO_71.out).2.2 x73_5 p201 q201
                           cases e201
                           replace p201:=eq_true p201
                           replace q201:=eq_true q201
                           have hcz51_0 : wr.cell? ⟨gb178,0,none⟩ = some (.slice A0_0 l0_0.length c0_0):=(blk_cell BK178.out 0).trans rfl
                           have hcz51_1 : wr.cell? ⟨gb178,1,none⟩ = some (.slice A0_1 l0_1.length c0_1):=(blk_cell BK178.out 1).trans rfl
                           have hcz51_2 : wr.cell? ⟨gb178,2,none⟩ = some (.slice A0_2 l0_2.length c0_2):=(blk_cell BK178.out 2).trans rfl
                           have hcz51_3 : wr.cell? ⟨gb178,3,none⟩ = some (.slice A0_3 l0_3.length c0_3):=(blk_cell BK178.out 3).trans rfl
                           have hfz51_0:=blk_frozen BK178.out 0
                           have hfz51_1:=blk_frozen BK178.out 1
                           have hfz51_2:=blk_frozen BK178.out 2
                           have hfz51_3:=blk_frozen BK178.out 3
                           go_wp2_with (first|(go_at_call 60;(with_reducible refine (spec_l6Value.calls _ _ l0_0 _ _ l0_1 _ _ l0_2 _ _ l0_3 (rd t196 x73_5) true _ ?side1 ?side2 ?side3 ?side4 ?side5 ?side6 ?side7 ?side8 A49.out).mono ?_);(case side1=>repeat (first|exact (Kd.C_below HR0_0.out HB.out)|(with_reducible first|apply Kd.C_alloc|apply Kd.C_drewN|apply Kd.C_drew)));(case side2=>exact HC0_0.out);(case side3=>repeat (first|exact (Kd.C_below HR0_1.out HB.out)|(with_reducible first|apply Kd.C_alloc|apply Kd.C_drewN|apply Kd.C_drew)));(case side4=>exact HC0_1.out);(case side5=>repeat (first|exact (Kd.C_below HR0_2.out HB.out)|(with_reducible first|apply Kd.C_alloc|apply Kd.C_drewN|apply Kd.C_drew)));(case side6=>exact HC0_2.out);(case side7=>repeat (first|exact (Kd.C_below HR0_3.out HB.out)|(with_reducible first|apply Kd.C_alloc|apply Kd.C_drewN|apply Kd.C_drew)));(case side8=>exact HC0_3.out);rintro e w52 ⟨rfl,hb⟩;have n0_:=Aside0.mk (Kd.S_below (by (with_reducible repeat (first|apply Kd.S_alloc|apply Kd.S_drewN|apply Kd.S_drew));exact HO_7.out) hb);have n1_:=Aside0.mk (Kd.R_below (by (with_reducible repeat (first|apply Kd.R_alloc|apply Kd.R_drewN|apply Kd.R_drew));exact HO_8.out) hb);have n2_:=Aside0.mk (Kd.R_below (by (with_reducible repeat (first|apply Kd.R_alloc|apply Kd.R_drewN|apply Kd.R_drew));exact HO_14.out) hb);have n3_:=Aside0.mk (Kd.R_below (by (with_reducible repeat (first|apply Kd.R_alloc|apply Kd.R_drewN|apply Kd.R_drew));exact HO_37.out) hb);have n4_:=Aside0.mk (Kd.R_below (by (with_reducible repeat (first|apply Kd.R_alloc|apply Kd.R_drewN|apply Kd.R_drew));exact HO_71.out) hb);have n5_:=Aside0.mk (blk_below (g:=gb178) (o:=.cells #[.slice A0_0 l0_0.length c0_0,.slice A0_1 l0_1.length c0_1,.slice A0_2 l0_2.length c0_2,.slice A0_3 l0_3.length c0_3] 30 (0,0)) (by (with_reducible repeat first|apply blk_drewN|apply blk_drew|apply blk_alloc);exact BK178.out) hb);have n6_:=Aside0.mk (below_step (by repeat (first|(with_reducible first|exact HB.out|apply below_alloc|apply pw_below_drewN|apply below_drew1|refine below_set ?_ GE178.out)|exact HB.out)) hb);clear HO_7;clear HO_8;clear HO_14;clear HO_37;clear HO_71;clear BK178;clear HB;have HO_7:=n0_;have HO_8:=n1_;have HO_14:=n2_;have HO_37:=n3_;have HO_71:=n4_;have BK178:=n5_;have HB:=n6_;clear n0_ n1_ n2_ n3_ n4_ n5_ n6_;(try clear hb);(try clear hb2);(try clear hk);(try clear hi)))
                           go_roundg k5
                           case measure=>have:=HJ11.out;have:=HK2.out;have:=HK3.out;have:=HJ36.out;have:=HK5.out;omega
                           case rel=>exact ⟨(wrap64 (x73_5 + 1)),(by first|rfl|(simp;done)|(simp [*];done)),H',⟨by have:=HJ11.out;have:=HK2.out;have:=HK3.out;have:=HJ36.out;have:=HK5.out;omega⟩,⟨by (with_reducible repeat (first|apply Kd.S_alloc|apply Kd.S_drewN|apply Kd.S_drew));exact HO_7.out⟩,⟨by (with_reducible repeat (first|apply Kd.R_alloc|apply Kd.R_drewN|apply Kd.R_drew));exact HO_8.out⟩,⟨by (with_reducible repeat (first|apply Kd.R_alloc|apply Kd.R_drewN|apply Kd.R_drew));exact HO_14.out⟩,⟨by (with_reducible repeat (first|apply Kd.R_alloc|apply Kd.R_drewN|apply Kd.R_drew));exact HO_37.out⟩,⟨by (with_reducible repeat (first|apply Kd.R_alloc|apply Kd.R_drewN|apply Kd.R_drew));exact HO_71.out⟩,⟨by (with_reducible repeat first|apply blk_drewN|apply blk_drew|apply blk_alloc);exact BK178.out⟩,⟨by repeat (first|(with_reducible first|exact HB.out|apply below_alloc|apply pw_below_drewN|apply below_drew1|refine below_set ?_ GE178.out)|exact HB.out)⟩⟩
                          ·replace c50:=Bool.eq_false_iff.mpr c50
                           subst c50
                           have H1 : (some (([] : List (List Int)),([] : List Int),false)) = some (r1,r2,r3):=by rw [if_neg (show ¬ (false = true) by decide)] at H;exact H
                           clear H
                           have H:=H1
                           clear H1
                           simp only [Option.some.injEq,Prod.mk.injEq] at H
                           obtain ⟨rfl,rfl,rfl⟩:=H
                           have p201 : 0 ≤ (x73_5 : Int):=of_decide_eq_true (by assumption)
                           have q201 : x73_5 < (t196.length : Int):=of_decide_eq_true (by assumption)
                           obtain ⟨ad201,e201,hx201_0⟩:=Kd.at_int (Kd.R_reads' HO_71.out).2.2 x73_5 p201 q201
                           cases e201
                           replace p201:=eq_true p201
                           replace q201:=eq_true q201
                           have hcz53_0 : wr.cell? ⟨gb178,0,none⟩ = some (.slice A0_0 l0_0.length c0_0):=(blk_cell BK178.out 0).trans rfl
                           have hcz53_1 : wr.cell? ⟨gb178,1,none⟩ = some (.slice A0_1 l0_1.length c0_1):=(blk_cell BK178.out 1).trans rfl
                           have hcz53_2 : wr.cell? ⟨gb178,2,none⟩ = some (.slice A0_2 l0_2.length c0_2):=(blk_cell BK178.out 2).trans rfl
                           have hcz53_3 : wr.cell? ⟨gb178,3,none⟩ = some (.slice A0_3 l0_3.length c0_3):=(blk_cell BK178.out 3).trans rfl
                           have hfz53_0:=blk_frozen BK178.out 0
                           have hfz53_1:=blk_frozen BK178.out 1
                           have hfz53_2:=blk_frozen BK178.out 2
                           have hfz53_3:=blk_frozen BK178.out 3
                           go_wp2_with (first|(go_at_call 60;(with_reducible refine (spec_l6Value.calls _ _ l0_0 _ _ l0_1 _ _ l0_2 _ _ l0_3 (rd t196 x73_5) false _ ?side1 ?side2 ?side3 ?side4 ?side5 ?side6 ?side7 ?side8 A49.out).mono ?_);(case side1=>repeat (first|exact (Kd.C_below HR0_0.out HB.out)|(with_reducible first|apply Kd.C_alloc|apply Kd.C_drewN|apply Kd.C_drew)));(case side2=>exact HC0_0.out);(case side3=>repeat (first|exact (Kd.C_below HR0_1.out HB.out)|(with_reducible first|apply Kd.C_alloc|apply Kd.C_drewN|apply Kd.C_drew)));(case side4=>exact HC0_1.out);(case side5=>repeat (first|exact (Kd.C_below HR0_2.out HB.out)|(with_reducible first|apply Kd.C_alloc|apply Kd.C_drewN|apply Kd.C_drew)));(case side6=>exact HC0_2.out);(case side7=>repeat (first|exact (Kd.C_below HR0_3.out HB.out)|(with_reducible first|apply Kd.C_alloc|apply Kd.C_drewN|apply Kd.C_drew)));(case side8=>exact HC0_3.out);rintro e w54 ⟨rfl,hb⟩;have n0_:=Aside0.mk (blk_below (g:=gb178) (o:=.cells #[.slice A0_0 l0_0.length c0_0,.slice A0_1 l0_1.length c0_1,.slice A0_2 l0_2.length c0_2,.slice A0_3 l0_3.length c0_3] 30 (0,0)) (by (with_reducible repeat first|apply blk_drewN|apply blk_drew|apply blk_alloc);exact BK178.out) hb);have n1_:=Aside0.mk (below_step (by repeat (first|(with_reducible first|exact HB.out|apply below_alloc|apply pw_below_drewN|apply below_drew1|refine below_set ?_ GE178.out)|exact HB.out)) hb);clear BK178;clear HB;clear HO_7;clear HO_8;clear HO_14;clear HO_37;clear HO_71;have BK178:=n0_;have HB:=n1_;clear n0_ n1_;(try clear hb);(try clear hb2);(try clear hk);(try clear hi)))
                           go_ret3
                           exact ⟨_,_,by first|rfl|(simp [*,errW_none,errW_some] <;> rfl),by first|exact Kd.S_nil _ _ _ _ _|exact Kd.N_nil _ _ _ _ _|exact Kd.V_nil _ _ _ _ _|exact Kd.Q_nil _ _ _ _ _|exact Kd.R_nil _ _ _ _ _,by first|exact Kd.R_nil _ _ _ _ _|exact Kd.N_nil _ _ _ _ _|exact Kd.V_nil _ _ _ _ _|exact Kd.Q_nil _ _ _ _ _|exact Kd.S_nil _ _ _ _ _,by repeat (first|(with_reducible first|exact HB.out|apply below_alloc|apply pw_below_drewN|apply below_drew1|refine below_set ?_ GE178.out)|exact HB.out)⟩
                        ·rw [if_neg c47] at H
                         exact absurd H (by simp)
                       ·rw [if_neg c46] at H
                        exact absurd H (by simp)
                      ·rw [if_neg c45] at H
                       have c45b0 : decide (x73_5 < (t196.length : Int)) = false:=decide_eq_false c45
                       clear c45
                       by_cases c55 : 0 ≤ x39_2
                       ·rw [if_pos c55] at H
                        have c55b0 : decide (0 ≤ x39_2) = true:=decide_eq_true c55
                        clear c55
                        by_cases c56 : x39_2 < (x7_2.length : Int)
                        ·rw [if_pos c56] at H
                         have c56b0 : decide (x39_2 < (x7_2.length : Int)) = true:=decide_eq_true c56
                         clear c56
                         obtain ⟨y203,hy203⟩ : ∃ y_ : List (List Int),y_ = (x7_2.set (x39_2 : Int).toNat t196):=⟨_,rfl⟩
                         replace H : (spec_l6Tree.l0 k5 y203 t185 t185 (t185.length : Int) (wrap64 (x39_2 + 1)) l0_0 l0_1 l0_2 l0_3) = some (r1,r2,r3):=by first|(rw [hy203];with_reducible exact H)|(have H2_:=(Option.bind_some _ _).symm.trans H;rw [hy203];with_reducible exact H2_)|(have H2_:=(Option.bind_some _ _).symm.trans H;with_reducible exact H2_)|with_reducible exact H|(rw [hy203];exact H)|exact H
                         have Ny203:=Aside0.mk hy203
                         clear hy203
                         have H':=Aside0.mk H
                         clear H
                         have p57 : 0 ≤ (x39_2 : Int):=of_decide_eq_true (by assumption)
                         have q57 : (x39_2 : Int) < ((x7_2.length : Int) : Int):=of_decide_eq_true (by assumption)
                         obtain ⟨go57,co57,eo57,gb57,gl57,cl57,HG57⟩:=Kd.S_form HO_7.out (by omega)
                         (first|cases eo57|(injection eo57 with ea_ en_ ec_;(first|subst ea_|(injection ea_ with ea_;subst ea_));subst ec_;clear en_))
                         have GB57:=Aside0.mk gb57
                         have GG57:=Aside0.mk HG57
                         clear gb57 gl57 HG57
                         obtain ⟨_,ce57,hcl57,hM57,hcc57,hfr57,_,_⟩:=Kd.S_elem HO_7.out [] (x39_2 : Int) p57 q57
                         obtain ⟨ve57_0,rfl,ge57_0⟩:=hM57
                         have hx57_0:=hcc57 0 _ rfl
                         have hf57_0:=hfr57 0
                         (try simp only [show ((Kd.slice 3 (Kd.int .i64))).sz = 1 from rfl,Nat.mul_one,Nat.add_zero] at hx57_0)
                         (try simp only [show ((Kd.slice 3 (Kd.int .i64))).sz = 1 from rfl,Nat.mul_one,Nat.add_zero] at hf57_0)
                         (try clear hM57);clear hcl57 hcc57 hfr57
                         replace p57:=eq_true p57
                         replace q57:=eq_true q57
                         have n_:=Aside0.mk (Kd.S_mono (ok':=(fun k_=>some k_ ≠ (.slice (some ad190) t185.length co24 : Value).ownBlock∧some k_ ≠ (.slice Ao44 t196.length co44 : Value).ownBlock∧some k_ ≠ (.slice (some ad190) t185.length co24 : Value).ownBlock)) HO_7.out (fun k_ hk=>⟨hk.1,⟨hk.2.1,hk.2.2.1⟩⟩))
                         clear HO_7
                         have HO_7:=n_
                         clear n_
                         have HX58:=Aside0.mk (show Kd.S (Kd.slice 3 (Kd.int .i64)) 24 wr w.heap.size (fun k_=>((fun k_=>some k_ ≠ (.slice (some ad190) t185.length co24 : Value).ownBlock∧some k_ ≠ (.slice (some ad190) t185.length co24 : Value).ownBlock)) k_∧¬ ((fun k_=>some k_ = (.slice Ao44 t196.length co44 : Value).ownBlock)) k_) (.slice (some ⟨go57,0,none⟩) x7_2.length co57) x7_2 from (by (with_reducible repeat (first|apply Kd.S_alloc|apply Kd.S_drewN|apply Kd.S_drew));exact Kd.S_mono HO_7.out (fun k_ hk=>⟨⟨hk.1,hk.2.2⟩,fun e_=>hk.2.1 e_⟩)))
                         obtain ⟨oki58,ce58,hcl58,hM58,hcc58,hfr58,hoki58,hH58⟩:=Kd.S_elem HX58.out [] (x39_2 : Int) (of_decide_eq_true (by assumption)) (by have h_ : (x39_2 : Int) < ((x7_2.length : Int) : Int):=of_decide_eq_true (by assumption);first|exact h_|(have e_:=(Kd.S_reads' HO_7.out).1;omega)|simpa using h_)
                         obtain ⟨ve58_0,rfl,ge58_0⟩:=hM58
                         have HP58:=Kd.S_seg hH58 (of_decide_eq_true (by assumption)) (by have h_ : (x39_2 : Int) < ((x7_2.length : Int) : Int):=of_decide_eq_true (by assumption);first|exact h_|(have e_:=(Kd.S_reads' HO_7.out).1;omega)|simpa using h_) (seg:=[.slice Ao44 t196.length co44]) (j:=0) (show 1 ≤ 1 from by decide) (x':=t196) (Kd.M_row (Kd.R_mono (Kd.R_tight rfl (Kd.R_mono (ok':=fun k_=>((fun k_=>some k_ ≠ (.slice (some ad190) t185.length co24 : Value).ownBlock∧some k_ ≠ (.slice (some ad190) t185.length co24 : Value).ownBlock)) k_∧k_ ≠ go57) (Kd.R_apart' (HO_14.out) (Kd.S_typed HO_7.out) (by decide)) (fun k_ hk=>⟨⟨hk.1.1,hk.1.2⟩,fun e_=>(hk.2) (by rw [e_];rfl)⟩))) (fun _ h_=>Or.inr (h_)))) (fun _ hk=>hk) (fun k_ hk_=>((Kd.R_mono (ok':=fun k_=>((fun k_=>some k_ ≠ (.slice (some ad190) t185.length co24 : Value).ownBlock∧some k_ ≠ (.slice (some ad190) t185.length co24 : Value).ownBlock)) k_∧k_ ≠ go57) (Kd.R_apart' (HO_14.out) (Kd.S_typed HO_7.out) (by decide)) (fun k_ hk=>⟨⟨hk.1.1,hk.1.2⟩,fun e_=>(hk.2) (by rw [e_];rfl)⟩))).1 k_ hk_.symm)
                         have hx58_0:=hcc58 0 _ rfl
                         (try simp only [show ((Kd.slice 3 (Kd.int .i64))).sz = 1 from rfl,Nat.mul_one,Nat.add_zero] at hx58_0)
                         have hf58_0:=hfr58 0
                         (try simp only [show ((Kd.slice 3 (Kd.int .i64))).sz = 1 from rfl,Nat.mul_one,Nat.add_zero] at hf58_0)
                         (try clear hM58);clear hcl58 hcc58 hfr58 hoki58 hH58
                         (try simp only [show ((Kd.slice 3 (Kd.int .i64))).sz = 1 from rfl,Nat.mul_one,Nat.add_zero] at HP58)
                         go_wp2_with (first|((with_reducible refine gate_store (t:=24) (p:=89) rfl ?_);refine store_event (t:=24) (p:=89) (v:=?vo_w59) (w1:=(wr.setCell ⟨go57,(x39_2 : Int).toNat,none⟩ (.slice Ao44 t196.length co44))) ?hg ?ho ?hn ?hr ?_;(case ho=>rfl);(case hg=>rfl);(case hn=>rfl);(case hr=>first|(go_simp;done)|(go_simp;rfl));intro w59 hw;have hg : wr.grownBy w59 (some go57):=(by rw [hw];exact HP58.2);have hp_ : Kd.S (Kd.slice 3 (Kd.int .i64)) 24 w59 w.heap.size (fun k_=>some k_ ≠ (.slice (some ad190) t185.length co24 : Value).ownBlock∧some k_ ≠ (.slice (some ad190) t185.length co24 : Value).ownBlock) (.slice (some ⟨go57,0,none⟩) x7_2.length co57) y203:=(by rw [hw,Ny203.out];exact HP58.1);clear HP58;have n0_:=Aside0.mk (hp_);have n1_:=Aside0.mk (Kd.R_over' (v:=(.slice (some ⟨go57,0,none⟩) x7_2.length co57)) (by (with_reducible repeat (first|apply Kd.R_alloc|apply Kd.R_drewN|apply Kd.R_drew));exact HO_8.out) (Kd.S_typed HO_7.out) (by decide) hg);have n2_:=Aside0.mk (Kd.R_over' (v:=(.slice (some ⟨go57,0,none⟩) x7_2.length co57)) (by (with_reducible repeat (first|apply Kd.R_alloc|apply Kd.R_drewN|apply Kd.R_drew));exact HO_37.out) (Kd.S_typed HO_7.out) (by decide) hg);have n3_:=Aside0.mk (blk_grown (g:=gb178) (o:=.cells #[.slice A0_0 l0_0.length c0_0,.slice A0_1 l0_1.length c0_1,.slice A0_2 l0_2.length c0_2,.slice A0_3 l0_3.length c0_3] 30 (0,0)) (by (with_reducible repeat first|apply blk_drewN|apply blk_drew|apply blk_alloc);exact BK178.out) hg (Kd.S_ne HO_7.out BK178.out (by decide)));have n4_:=Aside0.mk ((by rw [hw];exact below_set (HB.out) GB57.out : Below w.heap.size w w59));clear HO_7;clear HO_8;clear HO_37;clear BK178;clear HB;clear HO_14;have HO_7:=n0_;have HO_8:=n1_;have HO_37:=n2_;have BK178:=n3_;have HB:=n4_;clear n0_ n1_ n2_ n3_ n4_;clear hg hw hp_))
                         go_roundg k5
                         case measure=>have:=HJ11.out;have:=HK2.out;have:=HK3.out;have:=HJ36.out;have:=HK5.out;omega
                         case rel=>exact ⟨(y203),(wrap64 (x39_2 + 1)),(by first|rfl|(simp;done)|(simp [*];done)),H',⟨by have:=HJ11.out;have:=HK2.out;have:=HK3.out;have:=HJ36.out;have:=HK5.out;omega⟩,⟨by (with_reducible repeat (first|apply Kd.S_alloc|apply Kd.S_drewN|apply Kd.S_drew));exact HO_7.out⟩,⟨by (with_reducible repeat (first|apply Kd.R_alloc|apply Kd.R_drewN|apply Kd.R_drew));exact Kd.R_mono HO_8.out (fun _ hk=>trivial)⟩,⟨by (with_reducible repeat (first|apply Kd.R_alloc|apply Kd.R_drewN|apply Kd.R_drew));exact Kd.R_mono HO_37.out (fun _ hk=>trivial)⟩,⟨by (with_reducible repeat first|apply blk_drewN|apply blk_drew|apply blk_alloc);exact BK178.out⟩,⟨by repeat (first|(with_reducible first|exact HB.out|apply below_alloc|apply pw_below_drewN|apply below_drew1|refine below_set ?_ GE178.out)|exact HB.out)⟩⟩
                        ·rw [if_neg c56] at H
                         exact absurd H (by simp)
                       ·rw [if_neg c55] at H
                        exact absurd H (by simp)
             ·rw [if_neg c30] at H
              exact absurd H (by simp)
           ·rw [if_neg c27] at H
            exact absurd H (by simp)
          ·rw [if_neg c26] at H
           exact absurd H (by simp)
         ·rw [if_neg c25] at H
          have c25b0 : decide (x39_2 < (t185.length : Int)) = false:=decide_eq_false c25
          clear c25
          simp only [Option.some.injEq,Prod.mk.injEq] at H
          obtain ⟨rfl,rfl,rfl⟩:=H
          go_wp2
          go_ret3
          exact ⟨_,_,by first|rfl|(simp [*,errW_none,errW_some] <;> rfl),by (with_reducible repeat (first|apply Kd.S_alloc|apply Kd.S_drewN|apply Kd.S_drew));exact Kd.S_mono HO_7.out (fun _ hk=>hk.1),by (with_reducible repeat (first|apply Kd.R_alloc|apply Kd.R_drewN|apply Kd.R_drew));exact HO_8.out,by repeat (first|(with_reducible first|exact HB.out|apply below_alloc|apply pw_below_drewN|apply below_drew1|refine below_set ?_ GE178.out)|exact HB.out)⟩
  ·rw [if_neg c4] at H
   exact absurd H (by simp)
 ·rw [if_neg c3] at H
  exact absurd H (by simp)

end Go.Proofs.Ytcdlookokffkeaa.PFnExactValueIn
