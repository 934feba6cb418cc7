-- Written by a program of this session over the print of the kit (wip/t/patch_print.py).
import Derived.Test.YtlphbpaojcdjaaaPFnExactPutInx0
import Derived.Test.YtlphbpaojcdjaaaPFnExactPutInx1
import Derived.Test.YtlphbpaojcdjaaaPFnExactPutInx2
import Derived.Test.YtlphbpaojcdjaaaPFnExactPutInx3
import Derived.Test.YtlphbpaojcdjaaaPFnExactPutInx7
import Derived.Test.YtlphbpaojcdjaaaPFnExactPutInx11
namespace Go.Proofs.Ytlphbpaojcdjaaa.PFnExactPutIn
open Go.RowKit Go.Proofs.YtlphbpaojcdjaaaW.PrintWords Go.Proofs.YtlphbpaojcdjaaaW.PrintLast Go.Proofs.YtlphbpaojcdjaaaW.PrintMore
attribute [local go_sem] max2_int min2_int max_two min_two max_three min_three max_four min_four   -- for this text's walks alone
set_option linter.unusedVariables false
set_option linter.unusedSimpArgs false

theorem R_far4 {α : Type} {d : Kd α} {e : Nat} {w : World} {base : Nat} {ok : Nat → Prop} {v : Value} {xs : List α} {g t : Nat} {cells : Array Value} (h : d.R e w base ok v xs) (hb : w.heap[g]? = some (.cells cells t (0,0))) (ht : ∀ q,q ∈ e :: d.E → q ≠ t) {u0 u1 u2 u3 : Value} : d.R e ((((w.setCell ⟨g,0,none⟩ u0).setCell ⟨g,1,none⟩ u1).setCell ⟨g,2,none⟩ u2).setCell ⟨g,3,none⟩ u3) base ok v xs :=
 Kd.R_mono (Kd.R_far (p:=⟨g,3,none⟩) (Kd.R_far (p:=⟨g,2,none⟩) (Kd.R_far (p:=⟨g,1,none⟩) (Kd.R_far (p:=⟨g,0,none⟩) (Kd.R_types h hb ht) (fun _ hk=>hk.2) u0) (fun _ hk=>hk.2) u1) (fun _ hk=>hk.2) u2) (fun _ hk=>hk.2) u3) (fun _ h_=>h_.1)
theorem S_far4 {α : Type} {d : Kd α} {e : Nat} {w : World} {base : Nat} {ok : Nat → Prop} {v : Value} {xs : List α} {g t : Nat} {cells : Array Value} (h : d.S e w base ok v xs) (hb : w.heap[g]? = some (.cells cells t (0,0))) (ht : ∀ q,q ∈ e :: d.E → q ≠ t) {u0 u1 u2 u3 : Value} : d.S e ((((w.setCell ⟨g,0,none⟩ u0).setCell ⟨g,1,none⟩ u1).setCell ⟨g,2,none⟩ u2).setCell ⟨g,3,none⟩ u3) base ok v xs :=
 Kd.S_mono (Kd.S_far (p:=⟨g,3,none⟩) (Kd.S_far (p:=⟨g,2,none⟩) (Kd.S_far (p:=⟨g,1,none⟩) (Kd.S_far (p:=⟨g,0,none⟩) (Kd.S_types h hb ht) (fun _ hk=>hk.2) u0) (fun _ hk=>hk.2) u1) (fun _ hk=>hk.2) u2) (fun _ hk=>hk.2) u3) (fun _ h_=>h_.1)
theorem R_far4n {α : Type} {d : Kd α} {e : Nat} {w : World} {base : Nat} {ok : Nat → Prop} {v : Value} {xs : List α} {g t : Nat} {cells : Array Value} (h : d.R e w base ok v xs) (hb : w.heap[g]? = some (.cells cells t (0,0))) (ht : ∀ q,q ∈ e :: d.E → q ≠ t) {u0 u1 u2 u3 : Value} : d.R e ((((w.setCell ⟨g,0,none⟩ u0).setCell ⟨g,1,none⟩ u1).setCell ⟨g,2,none⟩ u2).setCell ⟨g,3,none⟩ u3) base (fun k=>ok k∧k ≠ g) v xs :=
 Kd.R_far (p:=⟨g,3,none⟩) (Kd.R_far (p:=⟨g,2,none⟩) (Kd.R_far (p:=⟨g,1,none⟩) (Kd.R_far (p:=⟨g,0,none⟩) (Kd.R_types h hb ht) (fun _ hk=>hk.2) u0) (fun _ hk=>hk.2) u1) (fun _ hk=>hk.2) u2) (fun _ hk=>hk.2) u3
theorem S_far4n {α : Type} {d : Kd α} {e : Nat} {w : World} {base : Nat} {ok : Nat → Prop} {v : Value} {xs : List α} {g t : Nat} {cells : Array Value} (h : d.S e w base ok v xs) (hb : w.heap[g]? = some (.cells cells t (0,0))) (ht : ∀ q,q ∈ e :: d.E → q ≠ t) {u0 u1 u2 u3 : Value} : d.S e ((((w.setCell ⟨g,0,none⟩ u0).setCell ⟨g,1,none⟩ u1).setCell ⟨g,2,none⟩ u2).setCell ⟨g,3,none⟩ u3) base (fun k=>ok k∧k ≠ g) v xs :=
 Kd.S_far (p:=⟨g,3,none⟩) (Kd.S_far (p:=⟨g,2,none⟩) (Kd.S_far (p:=⟨g,1,none⟩) (Kd.S_far (p:=⟨g,0,none⟩) (Kd.S_types h hb ht) (fun _ hk=>hk.2) u0) (fun _ hk=>hk.2) u1) (fun _ hk=>hk.2) u2) (fun _ hk=>hk.2) u3
/-! ### laws_FnExactPutIn: function 7 -/
mutual
def laws_FnExactPutIn.j0 : Nat → Int → List Int → Bool → List Int → Bool → Bool → List (List Int) → List Int → List Int → List Int → List (List Int) → List Int → List Int → List Int → List (List Int) → List Int → List Int → List Int → List (List Int) → List Int → List Int → List Int → Option (Bool)
 | 0,_,_,_,_,_,_,_,_,_,_,_,_,_,_,_,_,_,_,_,_,_,_=>none
 | k + 1,x1,x2,x9,x11,x13,x55,x403000,x403001,x403002,x403003,x433000,x433001,x433002,x433003,x446000,x446001,x446002,x446003,x463000,x463001,x463002,x463003=>if x55 = true then (some false) else ((laws_toSpace.f k x403000 x403001 x403002 x403003).bind fun bt464=>((laws_eqSpace.f k x446000 x446001 x446002 x446003 bt464.1 bt464.2.1 bt464.2.2.1 bt464.2.2.2).bind fun t476=>(if t476 = true then ((laws_toByteS.f k x2).bind fun t477=>((laws_eqByteS.f k x11 t477).bind fun t480=>(if t480 = true then ((laws_markSpace.f k x446000 x446001 x446002 x446003 1).bind fun bt481=>((laws_markByteS.f k x11 bt481.1).bind fun bt486=>(if bt486.1 < 0 then (laws_FnExactPutIn.j1 k x1 x2 x9 true x403000 x403001 x403002 x403003 x433000 x433001 x433002 x433003 x463000 x463001 x463002 x463003) else ((laws_eqSpace.f k x463000 x463001 x463002 x463003 x433000 x433001 x433002 x433003).bind fun t488=>(if t488 = true then (laws_FnExactPutIn.j1 k x1 x2 x9 (x13 != x9) x403000 x403001 x403002 x403003 x433000 x433001 x433002 x433003 x463000 x463001 x463002 x463003) else (laws_FnExactPutIn.j1 k x1 x2 x9 true x403000 x403001 x403002 x403003 x433000 x433001 x433002 x433003 x463000 x463001 x463002 x463003)))))) else (some false)))) else (some false))))
def laws_FnExactPutIn.j1 : Nat → Int → List Int → Bool → Bool → List (List Int) → List Int → List Int → List Int → List (List Int) → List Int → List Int → List Int → List (List Int) → List Int → List Int → List Int → Option (Bool)
 | 0,_,_,_,_,_,_,_,_,_,_,_,_,_,_,_,_=>none
 | k + 1,x1,x2,x9,x84,x403000,x403001,x403002,x403003,x433000,x433001,x433002,x433003,x463000,x463001,x463002,x463003=>if x84 = true then (some false) else ((laws_markSpace.f k x463000 x463001 x463002 x463003 1).bind fun bt489=>((laws_heldSpace.f k bt489.2.1 bt489.2.2.1 bt489.2.2.2.1 bt489.2.2.2.2 1).bind fun t494=>(if t494 < 0 then (some false) else (if t494 = bt489.1 then ((laws_toSpace.f k x403000 x403001 x403002 x403003).bind fun bt495=>((laws_toByteS.f k x2).bind fun t507=>((impl_PutIn.f k bt495.1 bt495.2.1 bt495.2.2.1 bt495.2.2.2 x1 t507).bind fun bt510=>((laws_eqSpace.f k bt510.1 bt510.2.1 bt510.2.2.1 bt510.2.2.2.1 x433000 x433001 x433002 x433003).bind fun t524=>(if t524 = true then (laws_FnExactPutIn.j2 k bt489.1 (bt510.2.2.2.2 != x9) bt489.2.1 bt489.2.2.1 bt489.2.2.2.1 bt489.2.2.2.2) else (laws_FnExactPutIn.j2 k bt489.1 true bt489.2.1 bt489.2.2.1 bt489.2.2.2.1 bt489.2.2.2.2)))))) else (some false)))))
def laws_FnExactPutIn.j2 : Nat → Int → Bool → List (List Int) → List Int → List Int → List Int → Option (Bool)
 | 0,_,_,_,_,_,_=>none
 | k + 1,x15,x113,x463000,x463001,x463002,x463003=>if x113 = true then (some false) else ((laws_heldSpace.f k x463000 x463001 x463002 x463003 1).bind fun t525=>(if t525 < 0 then (some false) else (if t525 = x15 then (some true) else (some false))))
end
def laws_FnExactPutIn.f (k : Nat) (l0_0 : List (List Int)) (l0_1 : List Int) (l0_2 : List Int) (l0_3 : List Int) (a1 : Int) (l2 : List Int) : Option (Bool):=if (l2.length : Int) > 1048576 then (some true) else ((laws_szSpace.f k l0_0 l0_1 l0_2 l0_3 1048576).bind fun t403=>(if t403 < 0 then (some true) else ((laws_toSpace.f k l0_0 l0_1 l0_2 l0_3).bind fun bt404=>((laws_toByteS.f k l2).bind fun t416=>((spec_PutIn.f k bt404.1 bt404.2.1 bt404.2.2.1 bt404.2.2.2 a1 t416).bind fun bt419=>((laws_toSpace.f k l0_0 l0_1 l0_2 l0_3).bind fun bt433=>((laws_toByteS.f k l2).bind fun t446=>((impl_PutIn.f k bt433.1 bt433.2.1 bt433.2.2.1 bt433.2.2.2 a1 t446).bind fun bt449=>((laws_eqSpace.f k bt449.1 bt449.2.1 bt449.2.2.1 bt449.2.2.2.1 bt419.1 bt419.2.1 bt419.2.2.1 bt419.2.2.2.1).bind fun t463=>(if t463 = true then (laws_FnExactPutIn.j0 k a1 l2 bt419.2.2.2.2 t446 bt449.2.2.2.2 (bt449.2.2.2.2 != bt419.2.2.2.2) l0_0 l0_1 l0_2 l0_3 bt419.1 bt419.2.1 bt419.2.2.1 bt419.2.2.2.1 bt433.1 bt433.2.1 bt433.2.2.1 bt433.2.2.2 bt449.1 bt449.2.1 bt449.2.2.1 bt449.2.2.2.1) else (laws_FnExactPutIn.j0 k a1 l2 bt419.2.2.2.2 t446 bt449.2.2.2.2 true l0_0 l0_1 l0_2 l0_3 bt419.1 bt419.2.1 bt419.2.2.1 bt419.2.2.2.1 bt433.1 bt433.2.1 bt433.2.2.1 bt433.2.2.2 bt449.1 bt449.2.1 bt449.2.2.1 bt449.2.2.2.1)))))))))))
theorem laws_FnExactPutIn.mono_l : ∀ k,(∀ y0 y1 y2 y3 y4 y5 y6 y7 y8 y9 y10 y11 y12 y13 y14 y15 y16 y17 y18 y19 y20 y21,LeO (laws_FnExactPutIn.j0 k y0 y1 y2 y3 y4 y5 y6 y7 y8 y9 y10 y11 y12 y13 y14 y15 y16 y17 y18 y19 y20 y21) (laws_FnExactPutIn.j0 (k + 1) y0 y1 y2 y3 y4 y5 y6 y7 y8 y9 y10 y11 y12 y13 y14 y15 y16 y17 y18 y19 y20 y21))∧(∀ y0 y1 y2 y3 y4 y5 y6 y7 y8 y9 y10 y11 y12 y13 y14 y15,LeO (laws_FnExactPutIn.j1 k y0 y1 y2 y3 y4 y5 y6 y7 y8 y9 y10 y11 y12 y13 y14 y15) (laws_FnExactPutIn.j1 (k + 1) y0 y1 y2 y3 y4 y5 y6 y7 y8 y9 y10 y11 y12 y13 y14 y15))∧(∀ y0 y1 y2 y3 y4 y5,LeO (laws_FnExactPutIn.j2 k y0 y1 y2 y3 y4 y5) (laws_FnExactPutIn.j2 (k + 1) y0 y1 y2 y3 y4 y5))
 | 0=>⟨fun _ _ _ _ _ _ _ _ _ _ _ _ _ _ _ _ _ _ _ _ _ _ r h=>by simp [laws_FnExactPutIn.j0] at h,fun _ _ _ _ _ _ _ _ _ _ _ _ _ _ _ _ r h=>by simp [laws_FnExactPutIn.j1] at h,fun _ _ _ _ _ _ r h=>by simp [laws_FnExactPutIn.j2] at h⟩
 | k + 1=>by
  obtain ⟨ih0,ih1,ih2⟩:=laws_FnExactPutIn.mono_l k
  refine ⟨?_,?_,?_⟩
  ·intro y0 y1 y2 y3 y4 y5 y6 y7 y8 y9 y10 y11 y12 y13 y14 y15 y16 y17 y18 y19 y20 y21
   unfold laws_FnExactPutIn.j0
   repeat' first
   | (with_reducible exact ih0 _ _ _ _ _ _ _ _ _ _ _ _ _ _ _ _ _ _ _ _ _ _)
   | (with_reducible exact ih1 _ _ _ _ _ _ _ _ _ _ _ _ _ _ _ _)
   | (with_reducible exact ih2 _ _ _ _ _ _)
   | (with_reducible exact impl_PutIn.mono _ _ _ _ _ _ _)
   | (with_reducible exact laws_eqByteS.mono _ _ _)
   | (with_reducible exact laws_eqSpace.mono _ _ _ _ _ _ _ _ _)
   | (with_reducible exact laws_heldSpace.mono _ _ _ _ _ _)
   | (with_reducible exact laws_markByteS.mono _ _ _)
   | (with_reducible exact laws_markSpace.mono _ _ _ _ _ _)
   | (with_reducible exact laws_szSpace.mono _ _ _ _ _ _)
   | (with_reducible exact laws_toByteS.mono _ _)
   | (with_reducible exact laws_toSpace.mono _ _ _ _ _)
   | (with_reducible exact spec_PutIn.mono _ _ _ _ _ _ _)
   | (with_reducible exact LeO.refl _)
   | (with_reducible exact LeO.none _)
   | (with_reducible refine LeO.ite ?_ ?_)
   | (with_reducible refine LeO.bind ?_ (fun _=>?_))
   | exact ih0 _ _ _ _ _ _ _ _ _ _ _ _ _ _ _ _ _ _ _ _ _ _
   | exact ih1 _ _ _ _ _ _ _ _ _ _ _ _ _ _ _ _
   | exact ih2 _ _ _ _ _ _
   | exact impl_PutIn.mono _ _ _ _ _ _ _
   | exact laws_eqByteS.mono _ _ _
   | exact laws_eqSpace.mono _ _ _ _ _ _ _ _ _
   | exact laws_heldSpace.mono _ _ _ _ _ _
   | exact laws_markByteS.mono _ _ _
   | exact laws_markSpace.mono _ _ _ _ _ _
   | exact laws_szSpace.mono _ _ _ _ _ _
   | exact laws_toByteS.mono _ _
   | exact laws_toSpace.mono _ _ _ _ _
   | exact spec_PutIn.mono _ _ _ _ _ _ _
   | exact LeO.none _
   | refine LeO.ite ?_ ?_
   | refine LeO.bind ?_ (fun _=>?_)
  ·intro y0 y1 y2 y3 y4 y5 y6 y7 y8 y9 y10 y11 y12 y13 y14 y15
   unfold laws_FnExactPutIn.j1
   repeat' first
   | (with_reducible exact ih0 _ _ _ _ _ _ _ _ _ _ _ _ _ _ _ _ _ _ _ _ _ _)
   | (with_reducible exact ih1 _ _ _ _ _ _ _ _ _ _ _ _ _ _ _ _)
   | (with_reducible exact ih2 _ _ _ _ _ _)
   | (with_reducible exact impl_PutIn.mono _ _ _ _ _ _ _)
   | (with_reducible exact laws_eqByteS.mono _ _ _)
   | (with_reducible exact laws_eqSpace.mono _ _ _ _ _ _ _ _ _)
   | (with_reducible exact laws_heldSpace.mono _ _ _ _ _ _)
   | (with_reducible exact laws_markByteS.mono _ _ _)
   | (with_reducible exact laws_markSpace.mono _ _ _ _ _ _)
   | (with_reducible exact laws_szSpace.mono _ _ _ _ _ _)
   | (with_reducible exact laws_toByteS.mono _ _)
   | (with_reducible exact laws_toSpace.mono _ _ _ _ _)
   | (with_reducible exact spec_PutIn.mono _ _ _ _ _ _ _)
   | (with_reducible exact LeO.refl _)
   | (with_reducible exact LeO.none _)
   | (with_reducible refine LeO.ite ?_ ?_)
   | (with_reducible refine LeO.bind ?_ (fun _=>?_))
   | exact ih0 _ _ _ _ _ _ _ _ _ _ _ _ _ _ _ _ _ _ _ _ _ _
   | exact ih1 _ _ _ _ _ _ _ _ _ _ _ _ _ _ _ _
   | exact ih2 _ _ _ _ _ _
   | exact impl_PutIn.mono _ _ _ _ _ _ _
   | exact laws_eqByteS.mono _ _ _
   | exact laws_eqSpace.mono _ _ _ _ _ _ _ _ _
   | exact laws_heldSpace.mono _ _ _ _ _ _
   | exact laws_markByteS.mono _ _ _
   | exact laws_markSpace.mono _ _ _ _ _ _
   | exact laws_szSpace.mono _ _ _ _ _ _
   | exact laws_toByteS.mono _ _
   | exact laws_toSpace.mono _ _ _ _ _
   | exact spec_PutIn.mono _ _ _ _ _ _ _
   | exact LeO.none _
   | refine LeO.ite ?_ ?_
   | refine LeO.bind ?_ (fun _=>?_)
  ·intro y0 y1 y2 y3 y4 y5
   unfold laws_FnExactPutIn.j2
   repeat' first
   | (with_reducible exact ih0 _ _ _ _ _ _ _ _ _ _ _ _ _ _ _ _ _ _ _ _ _ _)
   | (with_reducible exact ih1 _ _ _ _ _ _ _ _ _ _ _ _ _ _ _ _)
   | (with_reducible exact ih2 _ _ _ _ _ _)
   | (with_reducible exact impl_PutIn.mono _ _ _ _ _ _ _)
   | (with_reducible exact laws_eqByteS.mono _ _ _)
   | (with_reducible exact laws_eqSpace.mono _ _ _ _ _ _ _ _ _)
   | (with_reducible exact laws_heldSpace.mono _ _ _ _ _ _)
   | (with_reducible exact laws_markByteS.mono _ _ _)
   | (with_reducible exact laws_markSpace.mono _ _ _ _ _ _)
   | (with_reducible exact laws_szSpace.mono _ _ _ _ _ _)
   | (with_reducible exact laws_toByteS.mono _ _)
   | (with_reducible exact laws_toSpace.mono _ _ _ _ _)
   | (with_reducible exact spec_PutIn.mono _ _ _ _ _ _ _)
   | (with_reducible exact LeO.refl _)
   | (with_reducible exact LeO.none _)
   | (with_reducible refine LeO.ite ?_ ?_)
   | (with_reducible refine LeO.bind ?_ (fun _=>?_))
   | exact ih0 _ _ _ _ _ _ _ _ _ _ _ _ _ _ _ _ _ _ _ _ _ _
   | exact ih1 _ _ _ _ _ _ _ _ _ _ _ _ _ _ _ _
   | exact ih2 _ _ _ _ _ _
   | exact impl_PutIn.mono _ _ _ _ _ _ _
   | exact laws_eqByteS.mono _ _ _
   | exact laws_eqSpace.mono _ _ _ _ _ _ _ _ _
   | exact laws_heldSpace.mono _ _ _ _ _ _
   | exact laws_markByteS.mono _ _ _
   | exact laws_markSpace.mono _ _ _ _ _ _
   | exact laws_szSpace.mono _ _ _ _ _ _
   | exact laws_toByteS.mono _ _
   | exact laws_toSpace.mono _ _ _ _ _
   | exact spec_PutIn.mono _ _ _ _ _ _ _
   | exact LeO.none _
   | refine LeO.ite ?_ ?_
   | refine LeO.bind ?_ (fun _=>?_)
theorem laws_FnExactPutIn.mono : ∀ a0 a1 a2 a3 a4 a5 k,LeO (laws_FnExactPutIn.f k a0 a1 a2 a3 a4 a5) (laws_FnExactPutIn.f (k + 1) a0 a1 a2 a3 a4 a5):=by
 intro a0 a1 a2 a3 a4 a5 k
 obtain ⟨ih0,ih1,ih2⟩:=laws_FnExactPutIn.mono_l k
 unfold laws_FnExactPutIn.f
 repeat' first
   | (with_reducible exact ih0 _ _ _ _ _ _ _ _ _ _ _ _ _ _ _ _ _ _ _ _ _ _)
   | (with_reducible exact ih1 _ _ _ _ _ _ _ _ _ _ _ _ _ _ _ _)
   | (with_reducible exact ih2 _ _ _ _ _ _)
   | (with_reducible exact impl_PutIn.mono _ _ _ _ _ _ _)
   | (with_reducible exact laws_eqByteS.mono _ _ _)
   | (with_reducible exact laws_eqSpace.mono _ _ _ _ _ _ _ _ _)
   | (with_reducible exact laws_heldSpace.mono _ _ _ _ _ _)
   | (with_reducible exact laws_markByteS.mono _ _ _)
   | (with_reducible exact laws_markSpace.mono _ _ _ _ _ _)
   | (with_reducible exact laws_szSpace.mono _ _ _ _ _ _)
   | (with_reducible exact laws_toByteS.mono _ _)
   | (with_reducible exact laws_toSpace.mono _ _ _ _ _)
   | (with_reducible exact spec_PutIn.mono _ _ _ _ _ _ _)
   | (with_reducible exact LeO.refl _)
   | (with_reducible exact LeO.none _)
   | (with_reducible refine LeO.ite ?_ ?_)
   | (with_reducible refine LeO.bind ?_ (fun _=>?_))
   | exact ih0 _ _ _ _ _ _ _ _ _ _ _ _ _ _ _ _ _ _ _ _ _ _
   | exact ih1 _ _ _ _ _ _ _ _ _ _ _ _ _ _ _ _
   | exact ih2 _ _ _ _ _ _
   | exact impl_PutIn.mono _ _ _ _ _ _ _
   | exact laws_eqByteS.mono _ _ _
   | exact laws_eqSpace.mono _ _ _ _ _ _ _ _ _
   | exact laws_heldSpace.mono _ _ _ _ _ _
   | exact laws_markByteS.mono _ _ _
   | exact laws_markSpace.mono _ _ _ _ _ _
   | exact laws_szSpace.mono _ _ _ _ _ _
   | exact laws_toByteS.mono _ _
   | exact laws_toSpace.mono _ _ _ _ _
   | exact spec_PutIn.mono _ _ _ _ _ _ _
   | exact LeO.none _
   | refine LeO.ite ?_ ?_
   | refine LeO.bind ?_ (fun _=>?_)
set_option maxHeartbeats 8000000 in
set_option maxRecDepth 100000 in
theorem laws_FnExactPutIn.calls (k : Nat) (A0_0 : Option Addr) (c0_0 : Nat) (l0_0 : List (List Int)) (A0_1 : Option Addr) (c0_1 : Nat) (l0_1 : List Int) (A0_2 : Option Addr) (c0_2 : Nat) (l0_2 : List Int) (A0_3 : Option Addr) (c0_3 : Nat) (l0_3 : List Int) (a1 : Int) (A2 : Option Addr) (c2 : Nat) (l2 : List Int) (r : Bool) (w : World) (hr0_0 : Kd.C (Kd.slice 5 (Kd.int .u8)) w A0_0 l0_0.length l0_0) (hc0_0 : l0_0.length ≤ c0_0) (hr0_1 : Kd.C (Kd.int .u8) w A0_1 l0_1.length l0_1) (hc0_1 : l0_1.length ≤ c0_1) (hr0_2 : Kd.C (Kd.int .i64) w A0_2 l0_2.length l0_2) (hc0_2 : l0_2.length ≤ c0_2) (hr0_3 : Kd.C (Kd.int .i64) w A0_3 l0_3.length l0_3) (hc0_3 : l0_3.length ≤ c0_3) (hr2 : Kd.C (Kd.int .u8) w A2 l2.length l2) (hc2 : l2.length ≤ c2) (h : laws_FnExactPutIn.f k l0_0 l0_1 l0_2 l0_3 a1 l2 = some r) :
  Calls Try.prog 7 #[.agg #[.slice A0_0 l0_0.length c0_0,.slice A0_1 l0_1.length c0_1,.slice A0_2 l0_2.length c0_2,.slice A0_3 l0_3.length c0_3],.int .i64 a1,.slice A2 l2.length c2] w fun e w'=>e = .returned (.bool r)∧Below w.heap.size w w':=by
 have hu26:=Try.underlying26
 have hu29:=Try.underlying29
 have HR0_0:=Aside0.mk hr0_0
 have HC0_0:=Aside0.mk hc0_0
 clear hr0_0 hc0_0
 have HR0_1:=Aside0.mk hr0_1
 have HC0_1:=Aside0.mk hc0_1
 clear hr0_1 hc0_1
 have HR0_2:=Aside0.mk hr0_2
 have HC0_2:=Aside0.mk hc0_2
 clear hr0_2 hc0_2
 have HR0_3:=Aside0.mk hr0_3
 have HC0_3:=Aside0.mk hc0_3
 clear hr0_3 hc0_3
 have HR2:=Aside0.mk hr2
 have HC2:=Aside0.mk hc2
 clear hr2 hc2
 have HB:=Aside0.mk (Below.refl w.heap.size w)
 have H : (if (l2.length : Int) > 1048576 then (some true) else ((laws_szSpace.f k l0_0 l0_1 l0_2 l0_3 1048576).bind fun t403=>(if t403 < 0 then (some true) else ((laws_toSpace.f k l0_0 l0_1 l0_2 l0_3).bind fun bt404=>((laws_toByteS.f k l2).bind fun t416=>((spec_PutIn.f k bt404.1 bt404.2.1 bt404.2.2.1 bt404.2.2.2 a1 t416).bind fun bt419=>((laws_toSpace.f k l0_0 l0_1 l0_2 l0_3).bind fun bt433=>((laws_toByteS.f k l2).bind fun t446=>((impl_PutIn.f k bt433.1 bt433.2.1 bt433.2.2.1 bt433.2.2.2 a1 t446).bind fun bt449=>((laws_eqSpace.f k bt449.1 bt449.2.1 bt449.2.2.1 bt449.2.2.2.1 bt419.1 bt419.2.1 bt419.2.2.1 bt419.2.2.2.1).bind fun t463=>(if t463 = true then (laws_FnExactPutIn.j0 k a1 l2 bt419.2.2.2.2 t446 bt449.2.2.2.2 (bt449.2.2.2.2 != bt419.2.2.2.2) l0_0 l0_1 l0_2 l0_3 bt419.1 bt419.2.1 bt419.2.2.1 bt419.2.2.2.1 bt433.1 bt433.2.1 bt433.2.2.1 bt433.2.2.2 bt449.1 bt449.2.1 bt449.2.2.1 bt449.2.2.2.1) else (laws_FnExactPutIn.j0 k a1 l2 bt419.2.2.2.2 t446 bt449.2.2.2.2 true l0_0 l0_1 l0_2 l0_3 bt419.1 bt419.2.1 bt419.2.2.1 bt419.2.2.2.1 bt433.1 bt433.2.1 bt433.2.2.1 bt433.2.2.2 bt449.1 bt449.2.1 bt449.2.2.1 bt449.2.2.2.1)))))))))))) = some r:=h
 clear h
 by_cases c4 : (l2.length : Int) > 1048576
 ·rw [if_pos c4] at H
  have c4b0 : decide (1048576 < (l2.length : Int)) = true:=decide_eq_true c4
  have c4b1 : decide (1048576 < l2.length) = true:=decide_eq_true (by omega)
  clear c4
  obtain rfl:=Option.some.inj H
  go_enter Try.func7,Try.ntmps7
  go_wp2_with (first|((with_reducible refine gate_dst (N:=3) rfl ?_);refine box_event ?hg (N:=3) ?hd (cs:=#[.slice A0_0 l0_0.length c0_0,.slice A0_1 l0_1.length c0_1,.slice A0_2 l0_2.length c0_2,.slice A0_3 l0_3.length c0_3]) (t:=26) ?hr ?_;(case hd=>rfl);(case hg=>rfl);(case hr=>first|(go_simp;done)|(go_simp;rfl));intro gb402 hg w5 hbox hb;have BK402:=Aside0.mk (hbox);have GW402:=Aside0.mk ((by rw [hg];exact (below_size HB.out) : w.heap.size ≤ gb402));have GE402:=Aside0.mk ((by rw [hg];exact (below_size HB.out) : w.heap.size ≤ gb402));replace HB:=Aside0.mk (below_step HB.out hb);clear hb hbox hg))
  go_ret
  exact ⟨by first|rfl|(simp [*,errW_none,errW_some] <;> rfl),by repeat (first|(with_reducible first|exact HB.out|apply below_alloc|apply pw_below_drewN|apply below_drew1|refine below_set ?_ GE402.out)|exact HB.out)⟩
 ·rw [if_neg c4] at H
  have c4b0 : decide (1048576 < (l2.length : Int)) = false:=decide_eq_false c4
  have c4b1 : decide (1048576 < l2.length) = false:=decide_eq_false (by omega)
  clear c4
  replace H:=Option.bind_eq_some_iff.mp H
  obtain ⟨t403,A60,H⟩:=H
  replace H : (if t403 < 0 then (some true) else ((laws_toSpace.f k l0_0 l0_1 l0_2 l0_3).bind fun bt404=>((laws_toByteS.f k l2).bind fun t416=>((spec_PutIn.f k bt404.1 bt404.2.1 bt404.2.2.1 bt404.2.2.2 a1 t416).bind fun bt419=>((laws_toSpace.f k l0_0 l0_1 l0_2 l0_3).bind fun bt433=>((laws_toByteS.f k l2).bind fun t446=>((impl_PutIn.f k bt433.1 bt433.2.1 bt433.2.2.1 bt433.2.2.2 a1 t446).bind fun bt449=>((laws_eqSpace.f k bt449.1 bt449.2.1 bt449.2.2.1 bt449.2.2.2.1 bt419.1 bt419.2.1 bt419.2.2.1 bt419.2.2.2.1).bind fun t463=>(if t463 = true then (laws_FnExactPutIn.j0 k a1 l2 bt419.2.2.2.2 t446 bt449.2.2.2.2 (bt449.2.2.2.2 != bt419.2.2.2.2) l0_0 l0_1 l0_2 l0_3 bt419.1 bt419.2.1 bt419.2.2.1 bt419.2.2.2.1 bt433.1 bt433.2.1 bt433.2.2.1 bt433.2.2.2 bt449.1 bt449.2.1 bt449.2.2.1 bt449.2.2.2.1) else (laws_FnExactPutIn.j0 k a1 l2 bt419.2.2.2.2 t446 bt449.2.2.2.2 true l0_0 l0_1 l0_2 l0_3 bt419.1 bt419.2.1 bt419.2.2.1 bt419.2.2.2.1 bt433.1 bt433.2.1 bt433.2.2.1 bt433.2.2.2 bt449.1 bt449.2.1 bt449.2.2.1 bt449.2.2.2.1)))))))))) = some r:=H
  have A6:=Aside0.mk A60
  clear A60
  by_cases c7 : t403 < 0
  ·rw [if_pos c7] at H
   have c7b0 : decide (t403 < 0) = true:=decide_eq_true c7
   clear c7
   obtain rfl:=Option.some.inj H
   go_enter Try.func7,Try.ntmps7
   go_wp2_with (first|((with_reducible refine gate_dst (N:=3) rfl ?_);refine box_event ?hg (N:=3) ?hd (cs:=#[.slice A0_0 l0_0.length c0_0,.slice A0_1 l0_1.length c0_1,.slice A0_2 l0_2.length c0_2,.slice A0_3 l0_3.length c0_3]) (t:=26) ?hr ?_;(case hd=>rfl);(case hg=>rfl);(case hr=>first|(go_simp;done)|(go_simp;rfl));intro gb402 hg w8 hbox hb;have BK402:=Aside0.mk (hbox);have GW402:=Aside0.mk ((by rw [hg];exact (below_size HB.out) : w.heap.size ≤ gb402));have GE402:=Aside0.mk ((by rw [hg];exact (below_size HB.out) : w.heap.size ≤ gb402));replace HB:=Aside0.mk (below_step HB.out hb);clear hb hbox hg;have hcz9_0 : w8.cell? ⟨gb402,0,none⟩ = some (.slice A0_0 l0_0.length c0_0):=(blk_cell BK402.out 0).trans rfl;have hcz9_1 : w8.cell? ⟨gb402,1,none⟩ = some (.slice A0_1 l0_1.length c0_1):=(blk_cell BK402.out 1).trans rfl;have hcz9_2 : w8.cell? ⟨gb402,2,none⟩ = some (.slice A0_2 l0_2.length c0_2):=(blk_cell BK402.out 2).trans rfl;have hcz9_3 : w8.cell? ⟨gb402,3,none⟩ = some (.slice A0_3 l0_3.length c0_3):=(blk_cell BK402.out 3).trans rfl;have hfz9_0:=blk_frozen BK402.out 0;have hfz9_1:=blk_frozen BK402.out 1;have hfz9_2:=blk_frozen BK402.out 2;have hfz9_3:=blk_frozen BK402.out 3)|((with_reducible refine gate_callee (f:=10) rfl ?_);refine goesL_ (some 24) rfl rfl Try.func10 (by kernel_rfl) rfl #[.agg #[.slice A0_0 l0_0.length c0_0,.slice A0_1 l0_1.length c0_1,.slice A0_2 l0_2.length c0_2,.slice A0_3 l0_3.length c0_3],.int .i64 1048576] rfl (by (try simp only [List.map_toArray,List.map_cons,List.map_nil]);first|done|rfl) ?_;(with_reducible refine (laws_szSpace.calls k _ _ l0_0 _ _ l0_1 _ _ l0_2 _ _ l0_3 1048576 t403 _ ?side1 ?side2 ?side3 ?side4 ?side5 ?side6 ?side7 ?side8 A6.out).mono ?_);(case side1=>exact (Kd.C_below HR0_0.out HB.out));(case side2=>exact HC0_0.out);(case side3=>exact (Kd.C_below HR0_1.out HB.out));(case side4=>exact HC0_1.out);(case side5=>exact (Kd.C_below HR0_2.out HB.out));(case side6=>exact HC0_2.out);(case side7=>exact (Kd.C_below HR0_3.out HB.out));(case side8=>exact HC0_3.out);rintro e w10 ⟨rfl,hb⟩;refine ⟨_,rfl,?_⟩;replace BK402:=Aside0.mk (blk_below BK402.out hb);replace HB:=Aside0.mk (below_step HB.out hb);clear hb))
   go_ret
   exact ⟨by first|rfl|(simp [*,errW_none,errW_some] <;> rfl),by repeat (first|(with_reducible first|exact HB.out|apply below_alloc|apply pw_below_drewN|apply below_drew1|refine below_set ?_ GE402.out)|exact HB.out)⟩
  ·rw [if_neg c7] at H
   have c7b0 : decide (t403 < 0) = false:=decide_eq_false c7
   clear c7
   replace H:=Option.bind_eq_some_iff.mp H
   obtain ⟨⟨t404,t407,t410,t413⟩,A110,H⟩:=H
   replace H : ((laws_toByteS.f k l2).bind fun t416=>((spec_PutIn.f k t404 t407 t410 t413 a1 t416).bind fun bt419=>((laws_toSpace.f k l0_0 l0_1 l0_2 l0_3).bind fun bt433=>((laws_toByteS.f k l2).bind fun t446=>((impl_PutIn.f k bt433.1 bt433.2.1 bt433.2.2.1 bt433.2.2.2 a1 t446).bind fun bt449=>((laws_eqSpace.f k bt449.1 bt449.2.1 bt449.2.2.1 bt449.2.2.2.1 bt419.1 bt419.2.1 bt419.2.2.1 bt419.2.2.2.1).bind fun t463=>(if t463 = true then (laws_FnExactPutIn.j0 k a1 l2 bt419.2.2.2.2 t446 bt449.2.2.2.2 (bt449.2.2.2.2 != bt419.2.2.2.2) l0_0 l0_1 l0_2 l0_3 bt419.1 bt419.2.1 bt419.2.2.1 bt419.2.2.2.1 bt433.1 bt433.2.1 bt433.2.2.1 bt433.2.2.2 bt449.1 bt449.2.1 bt449.2.2.1 bt449.2.2.2.1) else (laws_FnExactPutIn.j0 k a1 l2 bt419.2.2.2.2 t446 bt449.2.2.2.2 true l0_0 l0_1 l0_2 l0_3 bt419.1 bt419.2.1 bt419.2.2.1 bt419.2.2.2.1 bt433.1 bt433.2.1 bt433.2.2.1 bt433.2.2.2 bt449.1 bt449.2.1 bt449.2.2.1 bt449.2.2.2.1)))))))) = some r:=H
   have A11:=Aside0.mk A110
   clear A110
   replace H:=Option.bind_eq_some_iff.mp H
   obtain ⟨t416,A120,H⟩:=H
   replace H : ((spec_PutIn.f k t404 t407 t410 t413 a1 t416).bind fun bt419=>((laws_toSpace.f k l0_0 l0_1 l0_2 l0_3).bind fun bt433=>((laws_toByteS.f k l2).bind fun t446=>((impl_PutIn.f k bt433.1 bt433.2.1 bt433.2.2.1 bt433.2.2.2 a1 t446).bind fun bt449=>((laws_eqSpace.f k bt449.1 bt449.2.1 bt449.2.2.1 bt449.2.2.2.1 bt419.1 bt419.2.1 bt419.2.2.1 bt419.2.2.2.1).bind fun t463=>(if t463 = true then (laws_FnExactPutIn.j0 k a1 l2 bt419.2.2.2.2 t446 bt449.2.2.2.2 (bt449.2.2.2.2 != bt419.2.2.2.2) l0_0 l0_1 l0_2 l0_3 bt419.1 bt419.2.1 bt419.2.2.1 bt419.2.2.2.1 bt433.1 bt433.2.1 bt433.2.2.1 bt433.2.2.2 bt449.1 bt449.2.1 bt449.2.2.1 bt449.2.2.2.1) else (laws_FnExactPutIn.j0 k a1 l2 bt419.2.2.2.2 t446 bt449.2.2.2.2 true l0_0 l0_1 l0_2 l0_3 bt419.1 bt419.2.1 bt419.2.2.1 bt419.2.2.2.1 bt433.1 bt433.2.1 bt433.2.2.1 bt433.2.2.2 bt449.1 bt449.2.1 bt449.2.2.1 bt449.2.2.2.1))))))) = some r:=H
   have A12:=Aside0.mk A120
   clear A120
   replace H:=Option.bind_eq_some_iff.mp H
   obtain ⟨⟨t419,t422,t425,t428,t431⟩,A130,H⟩:=H
   replace H : ((laws_toSpace.f k l0_0 l0_1 l0_2 l0_3).bind fun bt433=>((laws_toByteS.f k l2).bind fun t446=>((impl_PutIn.f k bt433.1 bt433.2.1 bt433.2.2.1 bt433.2.2.2 a1 t446).bind fun bt449=>((laws_eqSpace.f k bt449.1 bt449.2.1 bt449.2.2.1 bt449.2.2.2.1 t419 t422 t425 t428).bind fun t463=>(if t463 = true then (laws_FnExactPutIn.j0 k a1 l2 t431 t446 bt449.2.2.2.2 (bt449.2.2.2.2 != t431) l0_0 l0_1 l0_2 l0_3 t419 t422 t425 t428 bt433.1 bt433.2.1 bt433.2.2.1 bt433.2.2.2 bt449.1 bt449.2.1 bt449.2.2.1 bt449.2.2.2.1) else (laws_FnExactPutIn.j0 k a1 l2 t431 t446 bt449.2.2.2.2 true l0_0 l0_1 l0_2 l0_3 t419 t422 t425 t428 bt433.1 bt433.2.1 bt433.2.2.1 bt433.2.2.2 bt449.1 bt449.2.1 bt449.2.2.1 bt449.2.2.2.1)))))) = some r:=H
   have A13:=Aside0.mk A130
   clear A130
   replace H:=Option.bind_eq_some_iff.mp H
   obtain ⟨⟨t433,t436,t439,t442⟩,A140,H⟩:=H
   replace H : ((laws_toByteS.f k l2).bind fun t446=>((impl_PutIn.f k t433 t436 t439 t442 a1 t446).bind fun bt449=>((laws_eqSpace.f k bt449.1 bt449.2.1 bt449.2.2.1 bt449.2.2.2.1 t419 t422 t425 t428).bind fun t463=>(if t463 = true then (laws_FnExactPutIn.j0 k a1 l2 t431 t446 bt449.2.2.2.2 (bt449.2.2.2.2 != t431) l0_0 l0_1 l0_2 l0_3 t419 t422 t425 t428 t433 t436 t439 t442 bt449.1 bt449.2.1 bt449.2.2.1 bt449.2.2.2.1) else (laws_FnExactPutIn.j0 k a1 l2 t431 t446 bt449.2.2.2.2 true l0_0 l0_1 l0_2 l0_3 t419 t422 t425 t428 t433 t436 t439 t442 bt449.1 bt449.2.1 bt449.2.2.1 bt449.2.2.2.1))))) = some r:=H
   have A14:=Aside0.mk A140
   clear A140
   replace H:=Option.bind_eq_some_iff.mp H
   obtain ⟨t446,A150,H⟩:=H
   replace H : ((impl_PutIn.f k t433 t436 t439 t442 a1 t446).bind fun bt449=>((laws_eqSpace.f k bt449.1 bt449.2.1 bt449.2.2.1 bt449.2.2.2.1 t419 t422 t425 t428).bind fun t463=>(if t463 = true then (laws_FnExactPutIn.j0 k a1 l2 t431 t446 bt449.2.2.2.2 (bt449.2.2.2.2 != t431) l0_0 l0_1 l0_2 l0_3 t419 t422 t425 t428 t433 t436 t439 t442 bt449.1 bt449.2.1 bt449.2.2.1 bt449.2.2.2.1) else (laws_FnExactPutIn.j0 k a1 l2 t431 t446 bt449.2.2.2.2 true l0_0 l0_1 l0_2 l0_3 t419 t422 t425 t428 t433 t436 t439 t442 bt449.1 bt449.2.1 bt449.2.2.1 bt449.2.2.2.1)))) = some r:=H
   have A15:=Aside0.mk A150
   clear A150
   replace H:=Option.bind_eq_some_iff.mp H
   obtain ⟨⟨t449,t452,t455,t458,t461⟩,A160,H⟩:=H
   replace H : ((laws_eqSpace.f k t449 t452 t455 t458 t419 t422 t425 t428).bind fun t463=>(if t463 = true then (laws_FnExactPutIn.j0 k a1 l2 t431 t446 t461 (t461 != t431) l0_0 l0_1 l0_2 l0_3 t419 t422 t425 t428 t433 t436 t439 t442 t449 t452 t455 t458) else (laws_FnExactPutIn.j0 k a1 l2 t431 t446 t461 true l0_0 l0_1 l0_2 l0_3 t419 t422 t425 t428 t433 t436 t439 t442 t449 t452 t455 t458))) = some r:=H
   have A16:=Aside0.mk A160
   clear A160
   have HC17:=Aside0.mk H
   clear H
   go_enter Try.func7,Try.ntmps7
   go_upto_region 11 with (first|((with_reducible refine gate_dst (N:=3) rfl ?_);refine box_event ?hg (N:=3) ?hd (cs:=#[.slice A0_0 l0_0.length c0_0,.slice A0_1 l0_1.length c0_1,.slice A0_2 l0_2.length c0_2,.slice A0_3 l0_3.length c0_3]) (t:=26) ?hr ?_;(case hd=>rfl);(case hg=>rfl);(case hr=>first|(go_simp;done)|(go_simp;rfl));intro gb402 hg w18 hbox hb;have BK402:=Aside0.mk (hbox);have GW402:=Aside0.mk ((by rw [hg];exact (below_size HB.out) : w.heap.size ≤ gb402));have GE402:=Aside0.mk ((by rw [hg];exact (below_size HB.out) : w.heap.size ≤ gb402));replace HB:=Aside0.mk (below_step HB.out hb);clear hb hbox hg;have hcz19_0 : w18.cell? ⟨gb402,0,none⟩ = some (.slice A0_0 l0_0.length c0_0):=(blk_cell BK402.out 0).trans rfl;have hcz19_1 : w18.cell? ⟨gb402,1,none⟩ = some (.slice A0_1 l0_1.length c0_1):=(blk_cell BK402.out 1).trans rfl;have hcz19_2 : w18.cell? ⟨gb402,2,none⟩ = some (.slice A0_2 l0_2.length c0_2):=(blk_cell BK402.out 2).trans rfl;have hcz19_3 : w18.cell? ⟨gb402,3,none⟩ = some (.slice A0_3 l0_3.length c0_3):=(blk_cell BK402.out 3).trans rfl;have hfz19_0:=blk_frozen BK402.out 0;have hfz19_1:=blk_frozen BK402.out 1;have hfz19_2:=blk_frozen BK402.out 2;have hfz19_3:=blk_frozen BK402.out 3)|((with_reducible refine gate_callee (f:=10) rfl ?_);refine goesL_ (some 24) rfl rfl Try.func10 (by kernel_rfl) rfl #[.agg #[.slice A0_0 l0_0.length c0_0,.slice A0_1 l0_1.length c0_1,.slice A0_2 l0_2.length c0_2,.slice A0_3 l0_3.length c0_3],.int .i64 1048576] rfl (by (try simp only [List.map_toArray,List.map_cons,List.map_nil]);first|done|rfl) ?_;(with_reducible refine (laws_szSpace.calls k _ _ l0_0 _ _ l0_1 _ _ l0_2 _ _ l0_3 1048576 t403 _ ?side1 ?side2 ?side3 ?side4 ?side5 ?side6 ?side7 ?side8 A6.out).mono ?_);(case side1=>exact (Kd.C_below HR0_0.out HB.out));(case side2=>exact HC0_0.out);(case side3=>exact (Kd.C_below HR0_1.out HB.out));(case side4=>exact HC0_1.out);(case side5=>exact (Kd.C_below HR0_2.out HB.out));(case side6=>exact HC0_2.out);(case side7=>exact (Kd.C_below HR0_3.out HB.out));(case side8=>exact HC0_3.out);rintro e w20 ⟨rfl,hb⟩;refine ⟨_,rfl,?_⟩;replace BK402:=Aside0.mk (blk_below BK402.out hb);replace HB:=Aside0.mk (below_step HB.out hb);clear hb;have hcz21_0 : w20.cell? ⟨gb402,0,none⟩ = some (.slice A0_0 l0_0.length c0_0):=(blk_cell BK402.out 0).trans rfl;have hcz21_1 : w20.cell? ⟨gb402,1,none⟩ = some (.slice A0_1 l0_1.length c0_1):=(blk_cell BK402.out 1).trans rfl;have hcz21_2 : w20.cell? ⟨gb402,2,none⟩ = some (.slice A0_2 l0_2.length c0_2):=(blk_cell BK402.out 2).trans rfl;have hcz21_3 : w20.cell? ⟨gb402,3,none⟩ = some (.slice A0_3 l0_3.length c0_3):=(blk_cell BK402.out 3).trans rfl;have hfz21_0:=blk_frozen BK402.out 0;have hfz21_1:=blk_frozen BK402.out 1;have hfz21_2:=blk_frozen BK402.out 2;have hfz21_3:=blk_frozen BK402.out 3)|((with_reducible refine gate_callee (f:=12) rfl ?_);refine goesL_ (some 29) rfl rfl Try.func12 (by kernel_rfl) rfl #[.agg #[.slice A0_0 l0_0.length c0_0,.slice A0_1 l0_1.length c0_1,.slice A0_2 l0_2.length c0_2,.slice A0_3 l0_3.length c0_3]] rfl (by (try simp only [List.map_toArray,List.map_cons,List.map_nil]);first|done|rfl) ?_;(with_reducible refine (laws_toSpace.calls k _ _ l0_0 _ _ l0_1 _ _ l0_2 _ _ l0_3 t404 t407 t410 t413 _ ?side1 ?side2 ?side3 ?side4 ?side5 ?side6 ?side7 ?side8 A11.out).mono ?_);(case side1=>exact (Kd.C_below HR0_0.out HB.out));(case side2=>exact HC0_0.out);(case side3=>exact (Kd.C_below HR0_1.out HB.out));(case side4=>exact HC0_1.out);(case side5=>exact (Kd.C_below HR0_2.out HB.out));(case side6=>exact HC0_2.out);(case side7=>exact (Kd.C_below HR0_3.out HB.out));(case side8=>exact HC0_3.out);rintro e w22 ⟨v405,v408,v411,v414,rfl,ho0,ho1,ho2,ho3,hb⟩;refine ⟨_,rfl,?_⟩;have HO406:=Aside0.mk (Kd.S_lower (Kd.S_mono (Kd.S_bound ho0) (fun k_ h_=>(⟨h_.1,(by first|exact h_.2.1|simpa only [World.size_setCell] using h_.2.1)⟩ : _∧w20.heap.size ≤ k_))) (below_size HB.out));have HO409:=Aside0.mk (Kd.R_lower ho1 (below_size HB.out));have HO412:=Aside0.mk (Kd.R_lower ho2 (below_size HB.out));have HO415:=Aside0.mk (Kd.R_lower ho3 (below_size HB.out));replace BK402:=Aside0.mk (blk_below BK402.out hb);replace HB:=Aside0.mk (below_step HB.out hb);clear hb ho0 ho1 ho2 ho3)|((with_reducible refine gate_callee (f:=31) rfl ?_);refine goesL_ (some 32) rfl rfl Try.func31 (by kernel_rfl) rfl #[.slice A2 l2.length c2] rfl (by (try simp only [List.map_toArray,List.map_cons,List.map_nil]);first|done|rfl) ?_;(with_reducible refine (laws_toByteS.calls k _ _ l2 t416 _ ?side1 ?side2 A12.out).mono ?_);(case side1=>exact (Kd.C_below HR2.out HB.out));(case side2=>exact HC2.out);rintro e w23 ⟨v417,rfl,ho0,hb⟩;refine ⟨_,rfl,?_⟩;have HO418:=Aside0.mk (Kd.R_lower (Kd.R_new' ho0 (Kd.R_lt HO409.out)) (below_size HB.out));replace HO406:=Aside0.mk (Kd.S_elder' HO406.out (Kd.R_base ho0) hb);replace HO409:=Aside0.mk (Kd.R_elder' HO409.out (Kd.R_base ho0) hb);replace HO412:=Aside0.mk (Kd.R_below HO412.out hb);replace HO415:=Aside0.mk (Kd.R_below HO415.out hb);replace BK402:=Aside0.mk (blk_below BK402.out hb);replace HB:=Aside0.mk (below_step HB.out hb);clear hb ho0;obtain ⟨Ao24,co24,eo24⟩:=Kd.S_slice HO406.out;subst eo24;obtain ⟨Ao25,co25,eo25⟩:=Kd.R_slice HO409.out;subst eo25;obtain ⟨Ao26,co26,eo26⟩:=Kd.R_slice HO412.out;subst eo26;obtain ⟨Ao27,co27,eo27⟩:=Kd.R_slice HO415.out;subst eo27;obtain ⟨Ao28,co28,eo28⟩:=Kd.R_slice HO418.out;subst eo28)|((with_reducible refine gate_callee (f:=30) rfl ?_);refine goesL_ (some 33) rfl rfl Try.func30 (by kernel_rfl) rfl #[.agg #[.slice Ao24 t404.length co24,.slice Ao25 t407.length co25,.slice Ao26 t410.length co26,.slice Ao27 t413.length co27],.int .i64 a1,.slice Ao28 t416.length co28] rfl (by (try simp only [List.map_toArray,List.map_cons,List.map_nil]);first|done|rfl) ?_;(with_reducible refine (spec_PutIn.calls k _ _ t404 _ _ t407 _ _ t410 _ _ t413 a1 _ _ t416 t419 t422 t425 t428 t431 _ ?side1 ?side2 ?side3 ?side4 ?side5 ?side6 ?side7 ?side8 ?side9 ?side10 A13.out).mono ?_);(case side1=>exact (Kd.S_reads' HO406.out).2.2);(case side2=>exact (Kd.S_reads' HO406.out).2.1);(case side3=>exact (Kd.R_reads' HO409.out).2.2);(case side4=>exact (Kd.R_reads' HO409.out).2.1);(case side5=>exact (Kd.R_reads' HO412.out).2.2);(case side6=>exact (Kd.R_reads' HO412.out).2.1);(case side7=>exact (Kd.R_reads' HO415.out).2.2);(case side8=>exact (Kd.R_reads' HO415.out).2.1);(case side9=>exact (Kd.R_reads' HO418.out).2.2);(case side10=>exact (Kd.R_reads' HO418.out).2.1);rintro e w29 ⟨v420,v423,v426,v429,rfl,ho0,ho1,ho2,ho3,hb⟩;refine ⟨_,rfl,?_⟩;have HO421:=Aside0.mk (Kd.S_lower (Kd.S_new' (Kd.S_new' (Kd.S_new' (Kd.S_mono (Kd.S_bound ho0) (fun k_ h_=>(⟨h_.1,(by first|exact h_.2.1|simpa only [World.size_setCell] using h_.2.1)⟩ : _∧w23.heap.size ≤ k_))) (Kd.S_lt HO406.out)) (Kd.R_lt HO409.out)) (Kd.R_lt HO418.out)) (below_size HB.out));have HO424:=Aside0.mk (Kd.R_lower (Kd.R_new' (Kd.R_new' ho1 (Kd.R_lt HO409.out)) (Kd.R_lt HO418.out)) (below_size HB.out));have HO427:=Aside0.mk (Kd.R_lower (Kd.R_new' (Kd.R_new' ho2 (Kd.R_lt HO412.out)) (Kd.R_lt HO415.out)) (below_size HB.out));have HO430:=Aside0.mk (Kd.R_lower (Kd.R_new' (Kd.R_new' ho3 (Kd.R_lt HO412.out)) (Kd.R_lt HO415.out)) (below_size HB.out));replace HO406:=Aside0.mk (Kd.S_told (Kd.S_told (Kd.S_old HO406.out hb) (Kd.S_base ho0)) (Kd.R_base ho1));replace HO409:=Aside0.mk (Kd.R_elder' HO409.out (Kd.R_base ho1) hb);replace HO412:=Aside0.mk (Kd.R_mono (Kd.R_told (Kd.R_told (Kd.R_old HO412.out hb) (Kd.R_base ho2)) (Kd.R_base ho3)) (fun _ h_=>h_.1));replace HO415:=Aside0.mk (Kd.R_mono (Kd.R_told (Kd.R_told (Kd.R_old HO415.out hb) (Kd.R_base ho2)) (Kd.R_base ho3)) (fun _ h_=>h_.1));replace HO418:=Aside0.mk (Kd.R_elder' HO418.out (Kd.R_base ho1) hb);replace BK402:=Aside0.mk (blk_below BK402.out hb);replace HB:=Aside0.mk (below_step HB.out hb);clear hb ho0 ho1 ho2 ho3)|((with_reducible refine gate_dst (N:=8) rfl ?_);refine box_event ?hg (N:=8) ?hd (cs:=#[.slice none 0 0,.slice none 0 0,.slice none 0 0,.slice none 0 0]) (t:=29) ?hr ?_;(case hd=>rfl);(case hg=>rfl);(case hr=>first|(go_simp;done)|(go_simp;rfl));intro gb432 hg w30 hbox hb;have BK432:=Aside0.mk (hbox);have GW432:=Aside0.mk ((by rw [hg];exact (below_size HB.out) : w.heap.size ≤ gb432));have GE432:=Aside0.mk ((by rw [hg];exact (below_size HB.out) : w.heap.size ≤ gb432));have NB402_432:=Aside0.mk ((by rw [hg];exact Nat.ne_of_lt (blk_lt (g:=gb402) (o:=.cells #[.slice A0_0 l0_0.length c0_0,.slice A0_1 l0_1.length c0_1,.slice A0_2 l0_2.length c0_2,.slice A0_3 l0_3.length c0_3] 26 (0,0)) BK402.out) : gb402 ≠ gb432));have NB432_402:=Aside0.mk ((by rw [hg];exact Nat.ne_of_gt (blk_lt (g:=gb402) (o:=.cells #[.slice A0_0 l0_0.length c0_0,.slice A0_1 l0_1.length c0_1,.slice A0_2 l0_2.length c0_2,.slice A0_3 l0_3.length c0_3] 26 (0,0)) BK402.out) : gb432 ≠ gb402));replace HO421:=Aside0.mk (Kd.S_below HO421.out hb);replace HO424:=Aside0.mk (Kd.R_below HO424.out hb);replace HO427:=Aside0.mk (Kd.R_below HO427.out hb);replace HO430:=Aside0.mk (Kd.R_below HO430.out hb);replace BK402:=Aside0.mk (blk_below BK402.out hb);replace HB:=Aside0.mk (below_step HB.out hb);clear HO406 HO409 HO412 HO415 HO418;clear hb hbox hg;obtain ⟨Ao31,co31,eo31⟩:=Kd.S_slice HO421.out;subst eo31;have hnb32:=NB432_402.out;have hnc32:=NB402_432.out;have hcz33_0 : w30.cell? ⟨gb432,0,none⟩ = some (.slice none 0 0):=(blk_cell BK432.out 0).trans rfl;have hcz33_1 : w30.cell? ⟨gb432,1,none⟩ = some (.slice none 0 0):=(blk_cell BK432.out 1).trans rfl;have hcz33_2 : w30.cell? ⟨gb432,2,none⟩ = some (.slice none 0 0):=(blk_cell BK432.out 2).trans rfl;have hcz33_3 : w30.cell? ⟨gb432,3,none⟩ = some (.slice none 0 0):=(blk_cell BK432.out 3).trans rfl;have hfz33_0:=blk_frozen BK432.out 0;have hfz33_1:=blk_frozen BK432.out 1;have hfz33_2:=blk_frozen BK432.out 2;have hfz33_3:=blk_frozen BK432.out 3;obtain ⟨Ao34,co34,eo34⟩:=Kd.R_slice HO424.out;subst eo34;obtain ⟨Ao35,co35,eo35⟩:=Kd.R_slice HO427.out;subst eo35;obtain ⟨Ao36,co36,eo36⟩:=Kd.R_slice HO430.out;subst eo36;have hcz37_0 : w30.cell? ⟨gb402,0,none⟩ = some (.slice A0_0 l0_0.length c0_0):=(blk_cell BK402.out 0).trans rfl;have hcz37_1 : w30.cell? ⟨gb402,1,none⟩ = some (.slice A0_1 l0_1.length c0_1):=(blk_cell BK402.out 1).trans rfl;have hcz37_2 : w30.cell? ⟨gb402,2,none⟩ = some (.slice A0_2 l0_2.length c0_2):=(blk_cell BK402.out 2).trans rfl;have hcz37_3 : w30.cell? ⟨gb402,3,none⟩ = some (.slice A0_3 l0_3.length c0_3):=(blk_cell BK402.out 3).trans rfl;have hfz37_0:=blk_frozen BK402.out 0;have hfz37_1:=blk_frozen BK402.out 1;have hfz37_2:=blk_frozen BK402.out 2;have hfz37_3:=blk_frozen BK402.out 3)|((with_reducible refine gate_callee (f:=12) rfl ?_);refine goesL_ (some 37) rfl rfl Try.func12 (by kernel_rfl) rfl #[.agg #[.slice A0_0 l0_0.length c0_0,.slice A0_1 l0_1.length c0_1,.slice A0_2 l0_2.length c0_2,.slice A0_3 l0_3.length c0_3]] rfl (by (try simp only [List.map_toArray,List.map_cons,List.map_nil]);first|done|rfl) ?_;(with_reducible refine (laws_toSpace.calls k _ _ l0_0 _ _ l0_1 _ _ l0_2 _ _ l0_3 t433 t436 t439 t442 _ ?side1 ?side2 ?side3 ?side4 ?side5 ?side6 ?side7 ?side8 A14.out).mono ?_);(case side1=>exact Kd.C_below HR0_0.out (by repeat (first|(with_reducible first|exact HB.out|apply below_alloc|apply pw_below_drewN|apply below_drew1|refine below_set ?_ GE402.out|refine below_set ?_ GE432.out)|exact HB.out)));(case side2=>exact HC0_0.out);(case side3=>exact Kd.C_below HR0_1.out (by repeat (first|(with_reducible first|exact HB.out|apply below_alloc|apply pw_below_drewN|apply below_drew1|refine below_set ?_ GE402.out|refine below_set ?_ GE432.out)|exact HB.out)));(case side4=>exact HC0_1.out);(case side5=>exact Kd.C_below HR0_2.out (by repeat (first|(with_reducible first|exact HB.out|apply below_alloc|apply pw_below_drewN|apply below_drew1|refine below_set ?_ GE402.out|refine below_set ?_ GE432.out)|exact HB.out)));(case side6=>exact HC0_2.out);(case side7=>exact Kd.C_below HR0_3.out (by repeat (first|(with_reducible first|exact HB.out|apply below_alloc|apply pw_below_drewN|apply below_drew1|refine below_set ?_ GE402.out|refine below_set ?_ GE432.out)|exact HB.out)));(case side8=>exact HC0_3.out);rintro e w38 ⟨v434,v437,v440,v443,rfl,ho0,ho1,ho2,ho3,hb⟩;refine ⟨_,rfl,?_⟩;have HO435:=Aside0.mk (Kd.S_lower (Kd.S_new' (Kd.S_new' (Kd.S_mono (Kd.S_bound ho0) (fun k_ h_=>(⟨h_.1,(by first|exact h_.2.1|simpa only [World.size_setCell] using h_.2.1)⟩ : _∧w30.heap.size ≤ k_))) (Kd.S_lt (S_far4 HO421.out BK432.out (by decide)))) (Kd.R_lt (R_far4 HO424.out BK432.out (by decide)))) (below_size (by repeat (first|(with_reducible first|exact HB.out|apply below_alloc|apply pw_below_drewN|apply below_drew1|refine below_set ?_ GE402.out|refine below_set ?_ GE432.out)|exact HB.out))));have HO438:=Aside0.mk (Kd.R_lower (Kd.R_new' ho1 (Kd.R_lt (R_far4 HO424.out BK432.out (by decide)))) (below_size (by repeat (first|(with_reducible first|exact HB.out|apply below_alloc|apply pw_below_drewN|apply below_drew1|refine below_set ?_ GE402.out|refine below_set ?_ GE432.out)|exact HB.out))));have HO441:=Aside0.mk (Kd.R_lower (Kd.R_new' (Kd.R_new' ho2 (Kd.R_lt (R_far4 HO427.out BK432.out (by decide)))) (Kd.R_lt (R_far4 HO430.out BK432.out (by decide)))) (below_size (by repeat (first|(with_reducible first|exact HB.out|apply below_alloc|apply pw_below_drewN|apply below_drew1|refine below_set ?_ GE402.out|refine below_set ?_ GE432.out)|exact HB.out))));have HO444:=Aside0.mk (Kd.R_lower (Kd.R_new' (Kd.R_new' ho3 (Kd.R_lt (R_far4 HO427.out BK432.out (by decide)))) (Kd.R_lt (R_far4 HO430.out BK432.out (by decide)))) (below_size (by repeat (first|(with_reducible first|exact HB.out|apply below_alloc|apply pw_below_drewN|apply below_drew1|refine below_set ?_ GE402.out|refine below_set ?_ GE432.out)|exact HB.out))));replace HO421:=Aside0.mk (Kd.S_mono (Kd.S_told (Kd.S_told (Kd.S_old (S_far4 HO421.out BK432.out (by decide)) hb) (Kd.S_base ho0)) (Kd.R_base ho1)) (fun k_ h_=>(⟨h_.1,(by first|exact h_.2|simpa only [World.size_setCell] using h_.2)⟩ : _∧k_ < w30.heap.size)));replace HO424:=Aside0.mk (Kd.R_elder' (R_far4 HO424.out BK432.out (by decide)) (Kd.R_base ho1) hb);replace HO427:=Aside0.mk (Kd.R_mono (Kd.R_told (Kd.R_told (Kd.R_old (R_far4 HO427.out BK432.out (by decide)) hb) (Kd.R_base ho2)) (Kd.R_base ho3)) (fun _ h_=>h_.1));replace HO430:=Aside0.mk (Kd.R_mono (Kd.R_told (Kd.R_told (Kd.R_old (R_far4 HO430.out BK432.out (by decide)) hb) (Kd.R_base ho2)) (Kd.R_base ho3)) (fun _ h_=>h_.1));replace BK402:=Aside0.mk (blk_below (g:=gb402) (o:=.cells #[.slice A0_0 l0_0.length c0_0,.slice A0_1 l0_1.length c0_1,.slice A0_2 l0_2.length c0_2,.slice A0_3 l0_3.length c0_3] 26 (0,0)) (by refine blk_far ?_ NB402_432.out _;refine blk_far ?_ NB402_432.out _;refine blk_far ?_ NB402_432.out _;refine blk_far ?_ NB402_432.out _;exact BK402.out) hb);replace BK432:=Aside0.mk (blk_below (g:=gb432) (o:=.cells #[.slice Ao31 t419.length co31,.slice Ao34 t422.length co34,.slice Ao35 t425.length co35,.slice Ao36 t428.length co36] 29 (0,0)) (by refine blk_put (cs:=#[.slice Ao31 t419.length co31,.slice Ao34 t422.length co34,.slice Ao35 t425.length co35,.slice none 0 0]) ?_ 3 _ rfl;refine blk_put (cs:=#[.slice Ao31 t419.length co31,.slice Ao34 t422.length co34,.slice none 0 0,.slice none 0 0]) ?_ 2 _ rfl;refine blk_put (cs:=#[.slice Ao31 t419.length co31,.slice none 0 0,.slice none 0 0,.slice none 0 0]) ?_ 1 _ rfl;refine blk_put (cs:=#[.slice none 0 0,.slice none 0 0,.slice none 0 0,.slice none 0 0]) ?_ 0 _ rfl;exact BK432.out) hb);replace HB:=Aside0.mk (below_step (by repeat (first|(with_reducible first|exact HB.out|apply below_alloc|apply pw_below_drewN|apply below_drew1|refine below_set ?_ GE402.out|refine below_set ?_ GE432.out)|exact HB.out)) hb);clear hb ho0 ho1 ho2 ho3)|((with_reducible refine gate_dst (N:=10) rfl ?_);refine box_event ?hg (N:=10) ?hd (cs:=#[.slice none 0 0,.slice none 0 0,.slice none 0 0,.slice none 0 0]) (t:=29) ?hr ?_;(case hd=>rfl);(case hg=>rfl);(case hr=>first|(go_simp;done)|(go_simp;rfl));intro gb445 hg w39 hbox hb;have BK445:=Aside0.mk (hbox);have GW445:=Aside0.mk ((by rw [hg];exact (below_size HB.out) : w.heap.size ≤ gb445));have GE445:=Aside0.mk ((by rw [hg];exact (below_size HB.out) : w.heap.size ≤ gb445));have NB402_445:=Aside0.mk ((by rw [hg];exact Nat.ne_of_lt (blk_lt (g:=gb402) (o:=.cells #[.slice A0_0 l0_0.length c0_0,.slice A0_1 l0_1.length c0_1,.slice A0_2 l0_2.length c0_2,.slice A0_3 l0_3.length c0_3] 26 (0,0)) BK402.out) : gb402 ≠ gb445));have NB445_402:=Aside0.mk ((by rw [hg];exact Nat.ne_of_gt (blk_lt (g:=gb402) (o:=.cells #[.slice A0_0 l0_0.length c0_0,.slice A0_1 l0_1.length c0_1,.slice A0_2 l0_2.length c0_2,.slice A0_3 l0_3.length c0_3] 26 (0,0)) BK402.out) : gb445 ≠ gb402));have NB432_445:=Aside0.mk ((by rw [hg];exact Nat.ne_of_lt (blk_lt (g:=gb432) (o:=.cells #[.slice Ao31 t419.length co31,.slice Ao34 t422.length co34,.slice Ao35 t425.length co35,.slice Ao36 t428.length co36] 29 (0,0)) BK432.out) : gb432 ≠ gb445));have NB445_432:=Aside0.mk ((by rw [hg];exact Nat.ne_of_gt (blk_lt (g:=gb432) (o:=.cells #[.slice Ao31 t419.length co31,.slice Ao34 t422.length co34,.slice Ao35 t425.length co35,.slice Ao36 t428.length co36] 29 (0,0)) BK432.out) : gb445 ≠ gb432));replace HO421:=Aside0.mk (Kd.S_below HO421.out hb);replace HO424:=Aside0.mk (Kd.R_below HO424.out hb);replace HO427:=Aside0.mk (Kd.R_below HO427.out hb);replace HO430:=Aside0.mk (Kd.R_below HO430.out hb);replace HO435:=Aside0.mk (Kd.S_below HO435.out hb);replace HO438:=Aside0.mk (Kd.R_below HO438.out hb);replace HO441:=Aside0.mk (Kd.R_below HO441.out hb);replace HO444:=Aside0.mk (Kd.R_below HO444.out hb);replace BK402:=Aside0.mk (blk_below BK402.out hb);replace BK432:=Aside0.mk (blk_below BK432.out hb);replace HB:=Aside0.mk (below_step HB.out hb);clear hb hbox hg;obtain ⟨Ao40,co40,eo40⟩:=Kd.S_slice HO435.out;subst eo40;have hnb41:=NB445_402.out;have hnc41:=NB402_445.out;have hnb42:=NB445_432.out;have hnc42:=NB432_445.out;have hcz43_0 : w39.cell? ⟨gb445,0,none⟩ = some (.slice none 0 0):=(blk_cell BK445.out 0).trans rfl;have hcz43_1 : w39.cell? ⟨gb445,1,none⟩ = some (.slice none 0 0):=(blk_cell BK445.out 1).trans rfl;have hcz43_2 : w39.cell? ⟨gb445,2,none⟩ = some (.slice none 0 0):=(blk_cell BK445.out 2).trans rfl;have hcz43_3 : w39.cell? ⟨gb445,3,none⟩ = some (.slice none 0 0):=(blk_cell BK445.out 3).trans rfl;have hfz43_0:=blk_frozen BK445.out 0;have hfz43_1:=blk_frozen BK445.out 1;have hfz43_2:=blk_frozen BK445.out 2;have hfz43_3:=blk_frozen BK445.out 3;obtain ⟨Ao44,co44,eo44⟩:=Kd.R_slice HO438.out;subst eo44;obtain ⟨Ao45,co45,eo45⟩:=Kd.R_slice HO441.out;subst eo45;obtain ⟨Ao46,co46,eo46⟩:=Kd.R_slice HO444.out;subst eo46)|((with_reducible refine gate_callee (f:=31) rfl ?_);refine goesL_ (some 39) rfl rfl Try.func31 (by kernel_rfl) rfl #[.slice A2 l2.length c2] rfl (by (try simp only [List.map_toArray,List.map_cons,List.map_nil]);first|done|rfl) ?_;(with_reducible refine (laws_toByteS.calls k _ _ l2 t446 _ ?side1 ?side2 A15.out).mono ?_);(case side1=>exact Kd.C_below HR2.out (by repeat (first|(with_reducible first|exact HB.out|apply below_alloc|apply pw_below_drewN|apply below_drew1|refine below_set ?_ GE402.out|refine below_set ?_ GE432.out|refine below_set ?_ GE445.out)|exact HB.out)));(case side2=>exact HC2.out);rintro e w47 ⟨v447,rfl,ho0,hb⟩;refine ⟨_,rfl,?_⟩;have HO448:=Aside0.mk (Kd.R_lower (Kd.R_new' (Kd.R_new' ho0 (Kd.R_lt (R_far4 HO424.out BK445.out (by decide)))) (Kd.R_lt (R_far4 HO438.out BK445.out (by decide)))) (below_size (by repeat (first|(with_reducible first|exact HB.out|apply below_alloc|apply pw_below_drewN|apply below_drew1|refine below_set ?_ GE402.out|refine below_set ?_ GE432.out|refine below_set ?_ GE445.out)|exact HB.out))));replace HO421:=Aside0.mk (Kd.S_elder' (S_far4 HO421.out BK445.out (by decide)) (Kd.R_base ho0) hb);replace HO424:=Aside0.mk (Kd.R_elder' (R_far4 HO424.out BK445.out (by decide)) (Kd.R_base ho0) hb);replace HO427:=Aside0.mk (Kd.R_below (R_far4 HO427.out BK445.out (by decide)) hb);replace HO430:=Aside0.mk (Kd.R_below (R_far4 HO430.out BK445.out (by decide)) hb);replace HO435:=Aside0.mk (Kd.S_elder' (S_far4 HO435.out BK445.out (by decide)) (Kd.R_base ho0) hb);replace HO438:=Aside0.mk (Kd.R_elder' (R_far4 HO438.out BK445.out (by decide)) (Kd.R_base ho0) hb);replace HO441:=Aside0.mk (Kd.R_below (R_far4 HO441.out BK445.out (by decide)) hb);replace HO444:=Aside0.mk (Kd.R_below (R_far4 HO444.out BK445.out (by decide)) hb);replace BK402:=Aside0.mk (blk_below (g:=gb402) (o:=.cells #[.slice A0_0 l0_0.length c0_0,.slice A0_1 l0_1.length c0_1,.slice A0_2 l0_2.length c0_2,.slice A0_3 l0_3.length c0_3] 26 (0,0)) (by refine blk_far ?_ NB402_445.out _;refine blk_far ?_ NB402_445.out _;refine blk_far ?_ NB402_445.out _;refine blk_far ?_ NB402_445.out _;exact BK402.out) hb);replace BK432:=Aside0.mk (blk_below (g:=gb432) (o:=.cells #[.slice Ao31 t419.length co31,.slice Ao34 t422.length co34,.slice Ao35 t425.length co35,.slice Ao36 t428.length co36] 29 (0,0)) (by refine blk_far ?_ NB432_445.out _;refine blk_far ?_ NB432_445.out _;refine blk_far ?_ NB432_445.out _;refine blk_far ?_ NB432_445.out _;exact BK432.out) hb);replace BK445:=Aside0.mk (blk_below (g:=gb445) (o:=.cells #[.slice Ao40 t433.length co40,.slice Ao44 t436.length co44,.slice Ao45 t439.length co45,.slice Ao46 t442.length co46] 29 (0,0)) (by refine blk_put (cs:=#[.slice Ao40 t433.length co40,.slice Ao44 t436.length co44,.slice Ao45 t439.length co45,.slice none 0 0]) ?_ 3 _ rfl;refine blk_put (cs:=#[.slice Ao40 t433.length co40,.slice Ao44 t436.length co44,.slice none 0 0,.slice none 0 0]) ?_ 2 _ rfl;refine blk_put (cs:=#[.slice Ao40 t433.length co40,.slice none 0 0,.slice none 0 0,.slice none 0 0]) ?_ 1 _ rfl;refine blk_put (cs:=#[.slice none 0 0,.slice none 0 0,.slice none 0 0,.slice none 0 0]) ?_ 0 _ rfl;exact BK445.out) hb);replace HB:=Aside0.mk (below_step (by repeat (first|(with_reducible first|exact HB.out|apply below_alloc|apply pw_below_drewN|apply below_drew1|refine below_set ?_ GE402.out|refine below_set ?_ GE432.out|refine below_set ?_ GE445.out)|exact HB.out)) hb);clear hb ho0;have hcz48_0 : w47.cell? ⟨gb445,0,none⟩ = some (.slice Ao40 t433.length co40):=(blk_cell BK445.out 0).trans rfl;have hcz48_1 : w47.cell? ⟨gb445,1,none⟩ = some (.slice Ao44 t436.length co44):=(blk_cell BK445.out 1).trans rfl;have hcz48_2 : w47.cell? ⟨gb445,2,none⟩ = some (.slice Ao45 t439.length co45):=(blk_cell BK445.out 2).trans rfl;have hcz48_3 : w47.cell? ⟨gb445,3,none⟩ = some (.slice Ao46 t442.length co46):=(blk_cell BK445.out 3).trans rfl;have hfz48_0:=blk_frozen BK445.out 0;have hfz48_1:=blk_frozen BK445.out 1;have hfz48_2:=blk_frozen BK445.out 2;have hfz48_3:=blk_frozen BK445.out 3;obtain ⟨Ao49,co49,eo49⟩:=Kd.R_slice HO448.out;subst eo49)|((with_reducible refine gate_callee (f:=32) rfl ?_);refine goesL_ (some 44) rfl rfl Try.func32 (by kernel_rfl) rfl #[.agg #[.slice Ao40 t433.length co40,.slice Ao44 t436.length co44,.slice Ao45 t439.length co45,.slice Ao46 t442.length co46],.int .i64 a1,.slice Ao49 t446.length co49] rfl (by (try simp only [List.map_toArray,List.map_cons,List.map_nil]);first|done|rfl) ?_;(with_reducible refine (impl_PutIn.calls k _ _ t433 _ _ t436 _ _ t439 _ _ t442 a1 _ _ t446 t449 t452 t455 t458 t461 _ ?side1 ?side2 ?side3 ?side4 ?side5 ?side6 ?side7 ?side8 ?side9 ?side10 A16.out).mono ?_);(case side1=>exact (Kd.S_reads' HO435.out).2.2);(case side2=>exact (Kd.S_reads' HO435.out).2.1);(case side3=>exact (Kd.R_reads' HO438.out).2.2);(case side4=>exact (Kd.R_reads' HO438.out).2.1);(case side5=>exact (Kd.R_reads' HO441.out).2.2);(case side6=>exact (Kd.R_reads' HO441.out).2.1);(case side7=>exact (Kd.R_reads' HO444.out).2.2);(case side8=>exact (Kd.R_reads' HO444.out).2.1);(case side9=>exact (Kd.R_reads' HO448.out).2.2);(case side10=>exact (Kd.R_reads' HO448.out).2.1);rintro e w50 ⟨v450,v453,v456,v459,rfl,ho0,ho1,ho2,ho3,hb⟩;refine ⟨_,rfl,?_⟩;have HO451:=Aside0.mk (Kd.S_lower (Kd.S_new' (Kd.S_new' (Kd.S_new' (Kd.S_new' (Kd.S_new' (Kd.S_mono (Kd.S_bound ho0) (fun k_ h_=>(⟨h_.1,(by first|exact h_.2.1|simpa only [World.size_setCell] using h_.2.1)⟩ : _∧w47.heap.size ≤ k_))) (Kd.S_lt HO421.out)) (Kd.R_lt HO424.out)) (Kd.S_lt HO435.out)) (Kd.R_lt HO438.out)) (Kd.R_lt HO448.out)) (below_size HB.out));have HO454:=Aside0.mk (Kd.R_lower (Kd.R_new' (Kd.R_new' (Kd.R_new' ho1 (Kd.R_lt HO424.out)) (Kd.R_lt HO438.out)) (Kd.R_lt HO448.out)) (below_size HB.out));have HO457:=Aside0.mk (Kd.R_lower (Kd.R_new' (Kd.R_new' (Kd.R_new' (Kd.R_new' ho2 (Kd.R_lt HO427.out)) (Kd.R_lt HO430.out)) (Kd.R_lt HO441.out)) (Kd.R_lt HO444.out)) (below_size HB.out));have HO460:=Aside0.mk (Kd.R_lower (Kd.R_new' (Kd.R_new' (Kd.R_new' (Kd.R_new' ho3 (Kd.R_lt HO427.out)) (Kd.R_lt HO430.out)) (Kd.R_lt HO441.out)) (Kd.R_lt HO444.out)) (below_size HB.out));replace HO421:=Aside0.mk (Kd.S_told (Kd.S_told (Kd.S_old HO421.out hb) (Kd.S_base ho0)) (Kd.R_base ho1));replace HO424:=Aside0.mk (Kd.R_elder' HO424.out (Kd.R_base ho1) hb);replace HO427:=Aside0.mk (Kd.R_mono (Kd.R_told (Kd.R_told (Kd.R_old HO427.out hb) (Kd.R_base ho2)) (Kd.R_base ho3)) (fun _ h_=>h_.1));replace HO430:=Aside0.mk (Kd.R_mono (Kd.R_told (Kd.R_told (Kd.R_old HO430.out hb) (Kd.R_base ho2)) (Kd.R_base ho3)) (fun _ h_=>h_.1));replace HO435:=Aside0.mk (Kd.S_told (Kd.S_told (Kd.S_old HO435.out hb) (Kd.S_base ho0)) (Kd.R_base ho1));replace HO438:=Aside0.mk (Kd.R_elder' HO438.out (Kd.R_base ho1) hb);replace HO441:=Aside0.mk (Kd.R_mono (Kd.R_told (Kd.R_told (Kd.R_old HO441.out hb) (Kd.R_base ho2)) (Kd.R_base ho3)) (fun _ h_=>h_.1));replace HO444:=Aside0.mk (Kd.R_mono (Kd.R_told (Kd.R_told (Kd.R_old HO444.out hb) (Kd.R_base ho2)) (Kd.R_base ho3)) (fun _ h_=>h_.1));replace HO448:=Aside0.mk (Kd.R_elder' HO448.out (Kd.R_base ho1) hb);replace BK402:=Aside0.mk (blk_below BK402.out hb);replace BK432:=Aside0.mk (blk_below BK432.out hb);replace BK445:=Aside0.mk (blk_below BK445.out hb);replace HB:=Aside0.mk (below_step HB.out hb);clear hb ho0 ho1 ho2 ho3)|((with_reducible refine gate_dst (N:=12) rfl ?_);refine box_event ?hg (N:=12) ?hd (cs:=#[.slice none 0 0,.slice none 0 0,.slice none 0 0,.slice none 0 0]) (t:=29) ?hr ?_;(case hd=>rfl);(case hg=>rfl);(case hr=>first|(go_simp;done)|(go_simp;rfl));intro gb462 hg w51 hbox hb;have BK462:=Aside0.mk (hbox);have GW462:=Aside0.mk ((by rw [hg];exact (below_size HB.out) : w.heap.size ≤ gb462));have GE462:=Aside0.mk ((by rw [hg];exact (below_size HB.out) : w.heap.size ≤ gb462));have NB402_462:=Aside0.mk ((by rw [hg];exact Nat.ne_of_lt (blk_lt (g:=gb402) (o:=.cells #[.slice A0_0 l0_0.length c0_0,.slice A0_1 l0_1.length c0_1,.slice A0_2 l0_2.length c0_2,.slice A0_3 l0_3.length c0_3] 26 (0,0)) BK402.out) : gb402 ≠ gb462));have NB462_402:=Aside0.mk ((by rw [hg];exact Nat.ne_of_gt (blk_lt (g:=gb402) (o:=.cells #[.slice A0_0 l0_0.length c0_0,.slice A0_1 l0_1.length c0_1,.slice A0_2 l0_2.length c0_2,.slice A0_3 l0_3.length c0_3] 26 (0,0)) BK402.out) : gb462 ≠ gb402));have NB432_462:=Aside0.mk ((by rw [hg];exact Nat.ne_of_lt (blk_lt (g:=gb432) (o:=.cells #[.slice Ao31 t419.length co31,.slice Ao34 t422.length co34,.slice Ao35 t425.length co35,.slice Ao36 t428.length co36] 29 (0,0)) BK432.out) : gb432 ≠ gb462));have NB462_432:=Aside0.mk ((by rw [hg];exact Nat.ne_of_gt (blk_lt (g:=gb432) (o:=.cells #[.slice Ao31 t419.length co31,.slice Ao34 t422.length co34,.slice Ao35 t425.length co35,.slice Ao36 t428.length co36] 29 (0,0)) BK432.out) : gb462 ≠ gb432));have NB445_462:=Aside0.mk ((by rw [hg];exact Nat.ne_of_lt (blk_lt (g:=gb445) (o:=.cells #[.slice Ao40 t433.length co40,.slice Ao44 t436.length co44,.slice Ao45 t439.length co45,.slice Ao46 t442.length co46] 29 (0,0)) BK445.out) : gb445 ≠ gb462));have NB462_445:=Aside0.mk ((by rw [hg];exact Nat.ne_of_gt (blk_lt (g:=gb445) (o:=.cells #[.slice Ao40 t433.length co40,.slice Ao44 t436.length co44,.slice Ao45 t439.length co45,.slice Ao46 t442.length co46] 29 (0,0)) BK445.out) : gb462 ≠ gb445));replace HO421:=Aside0.mk (Kd.S_below HO421.out hb);replace HO424:=Aside0.mk (Kd.R_below HO424.out hb);replace HO427:=Aside0.mk (Kd.R_below HO427.out hb);replace HO430:=Aside0.mk (Kd.R_below HO430.out hb);replace HO435:=Aside0.mk (Kd.S_below HO435.out hb);replace HO438:=Aside0.mk (Kd.R_below HO438.out hb);replace HO441:=Aside0.mk (Kd.R_below HO441.out hb);replace HO444:=Aside0.mk (Kd.R_below HO444.out hb);replace HO448:=Aside0.mk (Kd.R_below HO448.out hb);replace HO451:=Aside0.mk (Kd.S_below HO451.out hb);replace HO454:=Aside0.mk (Kd.R_below HO454.out hb);replace HO457:=Aside0.mk (Kd.R_below HO457.out hb);replace HO460:=Aside0.mk (Kd.R_below HO460.out hb);replace BK402:=Aside0.mk (blk_below BK402.out hb);replace BK432:=Aside0.mk (blk_below BK432.out hb);replace BK445:=Aside0.mk (blk_below BK445.out hb);replace HB:=Aside0.mk (below_step HB.out hb);clear hb hbox hg;obtain ⟨Ao52,co52,eo52⟩:=Kd.S_slice HO451.out;subst eo52;have hnb53:=NB462_402.out;have hnc53:=NB402_462.out;have hnb54:=NB462_432.out;have hnc54:=NB432_462.out;have hnb55:=NB462_445.out;have hnc55:=NB445_462.out;have hcz56_0 : w51.cell? ⟨gb462,0,none⟩ = some (.slice none 0 0):=(blk_cell BK462.out 0).trans rfl;have hcz56_1 : w51.cell? ⟨gb462,1,none⟩ = some (.slice none 0 0):=(blk_cell BK462.out 1).trans rfl;have hcz56_2 : w51.cell? ⟨gb462,2,none⟩ = some (.slice none 0 0):=(blk_cell BK462.out 2).trans rfl;have hcz56_3 : w51.cell? ⟨gb462,3,none⟩ = some (.slice none 0 0):=(blk_cell BK462.out 3).trans rfl;have hfz56_0:=blk_frozen BK462.out 0;have hfz56_1:=blk_frozen BK462.out 1;have hfz56_2:=blk_frozen BK462.out 2;have hfz56_3:=blk_frozen BK462.out 3;obtain ⟨Ao57,co57,eo57⟩:=Kd.R_slice HO454.out;subst eo57;obtain ⟨Ao58,co58,eo58⟩:=Kd.R_slice HO457.out;subst eo58;obtain ⟨Ao59,co59,eo59⟩:=Kd.R_slice HO460.out;subst eo59))
   (try simp only [Act.put,List.setIfInBounds_toArray,List.set_cons_zero,List.set_cons_succ])
   go_cut [55] (fun v55 wc=>∃ (kq : Nat) (x55_16 : Bool),v55 = .bool x55_16∧Aside0 (laws_FnExactPutIn.j0 kq a1 l2 t431 t446 t461 x55_16 l0_0 l0_1 l0_2 l0_3 t419 t422 t425 t428 t433 t436 t439 t442 t449 t452 t455 t458 = some r)∧Aside0 (kq ≤ k)∧Aside0 (Kd.R (Kd.int .u8) 5 wc w.heap.size (fun k_=>some k_ ≠ ((.slice Ao34 t422.length co34) : Value).ownBlock∧some k_ ≠ ((.slice Ao44 t436.length co44) : Value).ownBlock∧some k_ ≠ ((.slice Ao57 t452.length co57) : Value).ownBlock) (.slice Ao49 t446.length co49) t446)∧Aside0 (Kd.S (Kd.slice 5 (Kd.int .u8)) 23 wc w.heap.size (fun k_=>some k_ ≠ ((.slice Ao49 t446.length co49) : Value).ownBlock∧some k_ ≠ ((.slice Ao34 t422.length co34) : Value).ownBlock∧some k_ ≠ ((.slice Ao40 t433.length co40) : Value).ownBlock∧some k_ ≠ ((.slice Ao44 t436.length co44) : Value).ownBlock∧some k_ ≠ ((.slice Ao52 t449.length co52) : Value).ownBlock∧some k_ ≠ ((.slice Ao57 t452.length co57) : Value).ownBlock∧w23.heap.size ≤ k_∧k_ < w30.heap.size∧k_ < w47.heap.size) (.slice Ao31 t419.length co31) t419)∧Aside0 (Kd.R (Kd.int .u8) 5 wc w.heap.size (fun k_=>some k_ ≠ ((.slice Ao49 t446.length co49) : Value).ownBlock∧some k_ ≠ ((.slice Ao44 t436.length co44) : Value).ownBlock∧some k_ ≠ ((.slice Ao57 t452.length co57) : Value).ownBlock) (.slice Ao34 t422.length co34) t422)∧Aside0 (Kd.R (Kd.int .i64) 3 wc w.heap.size (fun k_=>some k_ ≠ ((.slice Ao36 t428.length co36) : Value).ownBlock∧some k_ ≠ ((.slice Ao45 t439.length co45) : Value).ownBlock∧some k_ ≠ ((.slice Ao46 t442.length co46) : Value).ownBlock∧some k_ ≠ ((.slice Ao58 t455.length co58) : Value).ownBlock∧some k_ ≠ ((.slice Ao59 t458.length co59) : Value).ownBlock) (.slice Ao35 t425.length co35) t425)∧Aside0 (Kd.R (Kd.int .i64) 3 wc w.heap.size (fun k_=>some k_ ≠ ((.slice Ao35 t425.length co35) : Value).ownBlock∧some k_ ≠ ((.slice Ao45 t439.length co45) : Value).ownBlock∧some k_ ≠ ((.slice Ao46 t442.length co46) : Value).ownBlock∧some k_ ≠ ((.slice Ao58 t455.length co58) : Value).ownBlock∧some k_ ≠ ((.slice Ao59 t458.length co59) : Value).ownBlock) (.slice Ao36 t428.length co36) t428)∧Aside0 (Kd.S (Kd.slice 5 (Kd.int .u8)) 23 wc w.heap.size (fun k_=>some k_ ≠ ((.slice Ao49 t446.length co49) : Value).ownBlock∧some k_ ≠ ((.slice Ao31 t419.length co31) : Value).ownBlock∧some k_ ≠ ((.slice Ao34 t422.length co34) : Value).ownBlock∧some k_ ≠ ((.slice Ao44 t436.length co44) : Value).ownBlock∧some k_ ≠ ((.slice Ao52 t449.length co52) : Value).ownBlock∧some k_ ≠ ((.slice Ao57 t452.length co57) : Value).ownBlock∧w30.heap.size ≤ k_∧k_ < w47.heap.size) (.slice Ao40 t433.length co40) t433)∧Aside0 (Kd.R (Kd.int .u8) 5 wc w.heap.size (fun k_=>some k_ ≠ ((.slice Ao49 t446.length co49) : Value).ownBlock∧some k_ ≠ ((.slice Ao34 t422.length co34) : Value).ownBlock∧some k_ ≠ ((.slice Ao57 t452.length co57) : Value).ownBlock) (.slice Ao44 t436.length co44) t436)∧Aside0 (Kd.R (Kd.int .i64) 3 wc w.heap.size (fun k_=>some k_ ≠ ((.slice Ao35 t425.length co35) : Value).ownBlock∧some k_ ≠ ((.slice Ao36 t428.length co36) : Value).ownBlock∧some k_ ≠ ((.slice Ao46 t442.length co46) : Value).ownBlock∧some k_ ≠ ((.slice Ao58 t455.length co58) : Value).ownBlock∧some k_ ≠ ((.slice Ao59 t458.length co59) : Value).ownBlock) (.slice Ao45 t439.length co45) t439)∧Aside0 (Kd.R (Kd.int .i64) 3 wc w.heap.size (fun k_=>some k_ ≠ ((.slice Ao35 t425.length co35) : Value).ownBlock∧some k_ ≠ ((.slice Ao36 t428.length co36) : Value).ownBlock∧some k_ ≠ ((.slice Ao45 t439.length co45) : Value).ownBlock∧some k_ ≠ ((.slice Ao58 t455.length co58) : Value).ownBlock∧some k_ ≠ ((.slice Ao59 t458.length co59) : Value).ownBlock) (.slice Ao46 t442.length co46) t442)∧Aside0 (Kd.S (Kd.slice 5 (Kd.int .u8)) 23 wc w.heap.size (fun k_=>some k_ ≠ ((.slice Ao49 t446.length co49) : Value).ownBlock∧some k_ ≠ ((.slice Ao31 t419.length co31) : Value).ownBlock∧some k_ ≠ ((.slice Ao34 t422.length co34) : Value).ownBlock∧some k_ ≠ ((.slice Ao40 t433.length co40) : Value).ownBlock∧some k_ ≠ ((.slice Ao44 t436.length co44) : Value).ownBlock∧some k_ ≠ ((.slice Ao57 t452.length co57) : Value).ownBlock∧w47.heap.size ≤ k_) (.slice Ao52 t449.length co52) t449)∧Aside0 (Kd.R (Kd.int .u8) 5 wc w.heap.size (fun k_=>some k_ ≠ ((.slice Ao49 t446.length co49) : Value).ownBlock∧some k_ ≠ ((.slice Ao34 t422.length co34) : Value).ownBlock∧some k_ ≠ ((.slice Ao44 t436.length co44) : Value).ownBlock) (.slice Ao57 t452.length co57) t452)∧Aside0 (Kd.R (Kd.int .i64) 3 wc w.heap.size (fun k_=>some k_ ≠ ((.slice Ao35 t425.length co35) : Value).ownBlock∧some k_ ≠ ((.slice Ao36 t428.length co36) : Value).ownBlock∧some k_ ≠ ((.slice Ao45 t439.length co45) : Value).ownBlock∧some k_ ≠ ((.slice Ao46 t442.length co46) : Value).ownBlock∧some k_ ≠ ((.slice Ao59 t458.length co59) : Value).ownBlock) (.slice Ao58 t455.length co58) t455)∧Aside0 (Kd.R (Kd.int .i64) 3 wc w.heap.size (fun k_=>some k_ ≠ ((.slice Ao35 t425.length co35) : Value).ownBlock∧some k_ ≠ ((.slice Ao36 t428.length co36) : Value).ownBlock∧some k_ ≠ ((.slice Ao45 t439.length co45) : Value).ownBlock∧some k_ ≠ ((.slice Ao46 t442.length co46) : Value).ownBlock∧some k_ ≠ ((.slice Ao58 t455.length co58) : Value).ownBlock) (.slice Ao59 t458.length co59) t458)∧Aside0 (wc.heap[gb402]? = some (.cells #[(.slice A0_0 l0_0.length c0_0),(.slice A0_1 l0_1.length c0_1),(.slice A0_2 l0_2.length c0_2),(.slice A0_3 l0_3.length c0_3)] 26 (0,0)))∧Aside0 (wc.heap[gb432]? = some (.cells #[(.slice Ao31 t419.length co31),(.slice Ao34 t422.length co34),(.slice Ao35 t425.length co35),(.slice Ao36 t428.length co36)] 29 (0,0)))∧Aside0 (wc.heap[gb445]? = some (.cells #[(.slice Ao40 t433.length co40),(.slice Ao44 t436.length co44),(.slice Ao45 t439.length co45),(.slice Ao46 t442.length co46)] 29 (0,0)))∧Aside0 (wc.heap[gb462]? = some (.cells #[(.slice Ao52 t449.length co52),(.slice Ao57 t452.length co57),(.slice Ao58 t455.length co58),(.slice Ao59 t458.length co59)] 29 (0,0)))∧Aside0 (Below w.heap.size w wc))
   case first =>
    have H:=HC17.out
    clear HC17
    replace H:=Option.bind_eq_some_iff.mp H
    obtain ⟨t463,A600,H⟩:=H
    replace H : (if t463 = true then (laws_FnExactPutIn.j0 k a1 l2 t431 t446 t461 (t461 != t431) l0_0 l0_1 l0_2 l0_3 t419 t422 t425 t428 t433 t436 t439 t442 t449 t452 t455 t458) else (laws_FnExactPutIn.j0 k a1 l2 t431 t446 t461 true l0_0 l0_1 l0_2 l0_3 t419 t422 t425 t428 t433 t436 t439 t442 t449 t452 t455 t458)) = some r:=H
    have A60:=Aside0.mk A600
    clear A600
    by_cases c61 : t463 = true
    ·subst c61
     have H1 : (laws_FnExactPutIn.j0 k a1 l2 t431 t446 t461 (t461 != t431) l0_0 l0_1 l0_2 l0_3 t419 t422 t425 t428 t433 t436 t439 t442 t449 t452 t455 t458) = some r:=by rw [if_pos rfl] at H;exact H
     clear H
     have H:=H1
     clear H1
     have H':=Aside0.mk H
     clear H
     have hnb62:=NB462_402.out
     have hnc62:=NB402_462.out
     have hnb63:=NB462_432.out
     have hnc63:=NB432_462.out
     have hnb64:=NB462_445.out
     have hnc64:=NB445_462.out
     have hcz65_0 : w51.cell? ⟨gb462,0,none⟩ = some (.slice none 0 0):=(blk_cell BK462.out 0).trans rfl
     have hcz65_1 : w51.cell? ⟨gb462,1,none⟩ = some (.slice none 0 0):=(blk_cell BK462.out 1).trans rfl
     have hcz65_2 : w51.cell? ⟨gb462,2,none⟩ = some (.slice none 0 0):=(blk_cell BK462.out 2).trans rfl
     have hcz65_3 : w51.cell? ⟨gb462,3,none⟩ = some (.slice none 0 0):=(blk_cell BK462.out 3).trans rfl
     have hfz65_0:=blk_frozen BK462.out 0
     have hfz65_1:=blk_frozen BK462.out 1
     have hfz65_2:=blk_frozen BK462.out 2
     have hfz65_3:=blk_frozen BK462.out 3
     have hnb66:=NB432_402.out
     have hnc66:=NB402_432.out
     have hnb67:=NB432_445.out
     have hnc67:=NB445_432.out
     have hcz68_0 : w51.cell? ⟨gb432,0,none⟩ = some (.slice Ao31 t419.length co31):=(blk_cell BK432.out 0).trans rfl
     have hcz68_1 : w51.cell? ⟨gb432,1,none⟩ = some (.slice Ao34 t422.length co34):=(blk_cell BK432.out 1).trans rfl
     have hcz68_2 : w51.cell? ⟨gb432,2,none⟩ = some (.slice Ao35 t425.length co35):=(blk_cell BK432.out 2).trans rfl
     have hcz68_3 : w51.cell? ⟨gb432,3,none⟩ = some (.slice Ao36 t428.length co36):=(blk_cell BK432.out 3).trans rfl
     have hfz68_0:=blk_frozen BK432.out 0
     have hfz68_1:=blk_frozen BK432.out 1
     have hfz68_2:=blk_frozen BK432.out 2
     have hfz68_3:=blk_frozen BK432.out 3
     go_wp2_with (first|((with_reducible refine gate_callee (f:=14) rfl ?_);refine goesL_ (some 49) rfl rfl Try.func14 (by kernel_rfl) rfl #[.agg #[.slice Ao52 t449.length co52,.slice Ao57 t452.length co57,.slice Ao58 t455.length co58,.slice Ao59 t458.length co59],.agg #[.slice Ao31 t419.length co31,.slice Ao34 t422.length co34,.slice Ao35 t425.length co35,.slice Ao36 t428.length co36]] rfl (by (try simp only [List.map_toArray,List.map_cons,List.map_nil]);first|done|rfl) ?_;(with_reducible refine (laws_eqSpace.calls k _ _ t449 _ _ t452 _ _ t455 _ _ t458 _ _ t419 _ _ t422 _ _ t425 _ _ t428 true _ ?side1 ?side2 ?side3 ?side4 ?side5 ?side6 ?side7 ?side8 ?side9 ?side10 ?side11 ?side12 ?side13 ?side14 ?side15 ?side16 A60.out).mono ?_);(case side1=>refine (Kd.S_reads' (e:=23) (base:=w.heap.size) (ok:=fun k_=>((((((some k_ ≠ (.slice Ao57 t452.length co57 : Value).ownBlock∧w47.heap.size ≤ k_)∧some k_ ≠ (.slice Ao31 t419.length co31 : Value).ownBlock)∧some k_ ≠ (.slice Ao34 t422.length co34 : Value).ownBlock)∧some k_ ≠ (.slice Ao40 t433.length co40 : Value).ownBlock)∧some k_ ≠ (.slice Ao44 t436.length co44 : Value).ownBlock)∧some k_ ≠ (.slice Ao49 t446.length co49 : Value).ownBlock)) (n:=t449.length) (c:=co52) ?_).2.2;exact (S_far4 HO451.out BK462.out (by decide)));(case side2=>exact (Kd.S_reads' HO451.out).2.1);(case side3=>refine (Kd.R_reads' (e:=5) (base:=w.heap.size) (ok:=fun k_=>(((True∧some k_ ≠ (.slice Ao34 t422.length co34 : Value).ownBlock)∧some k_ ≠ (.slice Ao44 t436.length co44 : Value).ownBlock)∧some k_ ≠ (.slice Ao49 t446.length co49 : Value).ownBlock)) (n:=t452.length) (c:=co57) ?_).2.2;exact (R_far4 HO454.out BK462.out (by decide)));(case side4=>exact (Kd.R_reads' HO454.out).2.1);(case side5=>refine (Kd.R_reads' (e:=3) (base:=w.heap.size) (ok:=fun k_=>((((some k_ ≠ (.slice Ao59 t458.length co59 : Value).ownBlock∧some k_ ≠ (.slice Ao35 t425.length co35 : Value).ownBlock)∧some k_ ≠ (.slice Ao36 t428.length co36 : Value).ownBlock)∧some k_ ≠ (.slice Ao45 t439.length co45 : Value).ownBlock)∧some k_ ≠ (.slice Ao46 t442.length co46 : Value).ownBlock)) (n:=t455.length) (c:=co58) ?_).2.2;exact (R_far4 HO457.out BK462.out (by decide)));(case side6=>exact (Kd.R_reads' HO457.out).2.1);(case side7=>refine (Kd.R_reads' (e:=3) (base:=w.heap.size) (ok:=fun k_=>((((some k_ ≠ (.slice Ao58 t455.length co58 : Value).ownBlock∧some k_ ≠ (.slice Ao35 t425.length co35 : Value).ownBlock)∧some k_ ≠ (.slice Ao36 t428.length co36 : Value).ownBlock)∧some k_ ≠ (.slice Ao45 t439.length co45 : Value).ownBlock)∧some k_ ≠ (.slice Ao46 t442.length co46 : Value).ownBlock)) (n:=t458.length) (c:=co59) ?_).2.2;exact (R_far4 HO460.out BK462.out (by decide)));(case side8=>exact (Kd.R_reads' HO460.out).2.1);(case side9=>refine (Kd.S_reads' (e:=23) (base:=w.heap.size) (ok:=fun k_=>(some k_ ≠ (.slice Ao34 t422.length co34 : Value).ownBlock∧(w23.heap.size ≤ k_∧(some k_ ≠ (.slice Ao40 t433.length co40 : Value).ownBlock∧(some k_ ≠ (.slice Ao44 t436.length co44 : Value).ownBlock∧(k_ < w30.heap.size∧(some k_ ≠ (.slice Ao49 t446.length co49 : Value).ownBlock∧(some k_ ≠ (.slice Ao52 t449.length co52 : Value).ownBlock∧(some k_ ≠ (.slice Ao57 t452.length co57 : Value).ownBlock∧k_ < w47.heap.size))))))))) (n:=t419.length) (c:=co31) ?_).2.2;exact (by exact Kd.S_mono (S_far4n HO421.out BK462.out (by decide)) (fun _ hk=>⟨hk.1.1.1.1.1.1.1.1.1.1.1.1,⟨hk.1.1.1.1.1.1.1.1.1.1.1.2,⟨hk.1.1.1.1.1.1.1.2,⟨hk.1.1.1.1.1.1.2,⟨hk.1.1.1.1.1.2,⟨hk.1.1.1.1.2,⟨hk.1.1.1.2,⟨hk.1.1.2,hk.1.2⟩⟩⟩⟩⟩⟩⟩⟩)));(case side10=>exact (Kd.S_reads' HO421.out).2.1);(case side11=>refine (Kd.R_reads' (e:=5) (base:=w.heap.size) (ok:=fun k_=>(some k_ ≠ (.slice Ao44 t436.length co44 : Value).ownBlock∧(some k_ ≠ (.slice Ao49 t446.length co49 : Value).ownBlock∧some k_ ≠ (.slice Ao57 t452.length co57 : Value).ownBlock))) (n:=t422.length) (c:=co34) ?_).2.2;exact (by exact Kd.R_mono (R_far4n HO424.out BK462.out (by decide)) (fun _ hk=>⟨hk.1.1.1.2,⟨hk.1.1.2,hk.1.2⟩⟩)));(case side12=>exact (Kd.R_reads' HO424.out).2.1);(case side13=>refine (Kd.R_reads' (e:=3) (base:=w.heap.size) (ok:=fun k_=>(some k_ ≠ (.slice Ao36 t428.length co36 : Value).ownBlock∧(some k_ ≠ (.slice Ao45 t439.length co45 : Value).ownBlock∧(some k_ ≠ (.slice Ao46 t442.length co46 : Value).ownBlock∧(some k_ ≠ (.slice Ao58 t455.length co58 : Value).ownBlock∧some k_ ≠ (.slice Ao59 t458.length co59 : Value).ownBlock))))) (n:=t425.length) (c:=co35) ?_).2.2;exact (by exact Kd.R_mono (R_far4n HO427.out BK462.out (by decide)) (fun _ hk=>⟨hk.1.1.1.1.1.1.1,⟨hk.1.1.1.1.2,⟨hk.1.1.1.2,⟨hk.1.1.2,hk.1.2⟩⟩⟩⟩)));(case side14=>exact (Kd.R_reads' HO427.out).2.1);(case side15=>refine (Kd.R_reads' (e:=3) (base:=w.heap.size) (ok:=fun k_=>(some k_ ≠ (.slice Ao35 t425.length co35 : Value).ownBlock∧(some k_ ≠ (.slice Ao45 t439.length co45 : Value).ownBlock∧(some k_ ≠ (.slice Ao46 t442.length co46 : Value).ownBlock∧(some k_ ≠ (.slice Ao58 t455.length co58 : Value).ownBlock∧some k_ ≠ (.slice Ao59 t458.length co59 : Value).ownBlock))))) (n:=t428.length) (c:=co36) ?_).2.2;exact (by exact Kd.R_mono (R_far4n HO430.out BK462.out (by decide)) (fun _ hk=>⟨hk.1.1.1.1.1.1.1,⟨hk.1.1.1.1.2,⟨hk.1.1.1.2,⟨hk.1.1.2,hk.1.2⟩⟩⟩⟩)));(case side16=>exact (Kd.R_reads' HO430.out).2.1);rintro e w69 ⟨rfl,hb⟩;refine ⟨_,rfl,?_⟩;replace HO421:=Aside0.mk (Kd.S_below (S_far4 HO421.out BK462.out (by decide)) hb);replace HO424:=Aside0.mk (Kd.R_below (R_far4 HO424.out BK462.out (by decide)) hb);replace HO427:=Aside0.mk (Kd.R_below (R_far4 HO427.out BK462.out (by decide)) hb);replace HO430:=Aside0.mk (Kd.R_below (R_far4 HO430.out BK462.out (by decide)) hb);replace HO435:=Aside0.mk (Kd.S_below (S_far4 HO435.out BK462.out (by decide)) hb);replace HO438:=Aside0.mk (Kd.R_below (R_far4 HO438.out BK462.out (by decide)) hb);replace HO441:=Aside0.mk (Kd.R_below (R_far4 HO441.out BK462.out (by decide)) hb);replace HO444:=Aside0.mk (Kd.R_below (R_far4 HO444.out BK462.out (by decide)) hb);replace HO448:=Aside0.mk (Kd.R_below (R_far4 HO448.out BK462.out (by decide)) hb);replace HO451:=Aside0.mk (Kd.S_below (S_far4 HO451.out BK462.out (by decide)) hb);replace HO454:=Aside0.mk (Kd.R_below (R_far4 HO454.out BK462.out (by decide)) hb);replace HO457:=Aside0.mk (Kd.R_below (R_far4 HO457.out BK462.out (by decide)) hb);replace HO460:=Aside0.mk (Kd.R_below (R_far4 HO460.out BK462.out (by decide)) hb);replace BK402:=Aside0.mk (blk_below (g:=gb402) (o:=.cells #[.slice A0_0 l0_0.length c0_0,.slice A0_1 l0_1.length c0_1,.slice A0_2 l0_2.length c0_2,.slice A0_3 l0_3.length c0_3] 26 (0,0)) (by refine blk_far ?_ NB402_462.out _;refine blk_far ?_ NB402_462.out _;refine blk_far ?_ NB402_462.out _;refine blk_far ?_ NB402_462.out _;exact BK402.out) hb);replace BK432:=Aside0.mk (blk_below (g:=gb432) (o:=.cells #[.slice Ao31 t419.length co31,.slice Ao34 t422.length co34,.slice Ao35 t425.length co35,.slice Ao36 t428.length co36] 29 (0,0)) (by refine blk_far ?_ NB432_462.out _;refine blk_far ?_ NB432_462.out _;refine blk_far ?_ NB432_462.out _;refine blk_far ?_ NB432_462.out _;exact BK432.out) hb);replace BK445:=Aside0.mk (blk_below (g:=gb445) (o:=.cells #[.slice Ao40 t433.length co40,.slice Ao44 t436.length co44,.slice Ao45 t439.length co45,.slice Ao46 t442.length co46] 29 (0,0)) (by refine blk_far ?_ NB445_462.out _;refine blk_far ?_ NB445_462.out _;refine blk_far ?_ NB445_462.out _;refine blk_far ?_ NB445_462.out _;exact BK445.out) hb);replace BK462:=Aside0.mk (blk_below (g:=gb462) (o:=.cells #[.slice Ao52 t449.length co52,.slice Ao57 t452.length co57,.slice Ao58 t455.length co58,.slice Ao59 t458.length co59] 29 (0,0)) (by refine blk_put (cs:=#[.slice Ao52 t449.length co52,.slice Ao57 t452.length co57,.slice Ao58 t455.length co58,.slice none 0 0]) ?_ 3 _ rfl;refine blk_put (cs:=#[.slice Ao52 t449.length co52,.slice Ao57 t452.length co57,.slice none 0 0,.slice none 0 0]) ?_ 2 _ rfl;refine blk_put (cs:=#[.slice Ao52 t449.length co52,.slice none 0 0,.slice none 0 0,.slice none 0 0]) ?_ 1 _ rfl;refine blk_put (cs:=#[.slice none 0 0,.slice none 0 0,.slice none 0 0,.slice none 0 0]) ?_ 0 _ rfl;exact BK462.out) hb);replace HB:=Aside0.mk (below_step (by repeat (first|(with_reducible first|exact HB.out|apply below_alloc|apply pw_below_drewN|apply below_drew1|refine below_set ?_ GE402.out|refine below_set ?_ GE432.out|refine below_set ?_ GE445.out|refine below_set ?_ GE462.out)|exact HB.out)) hb);clear hb))
     go_meet
     case rel=>exact ⟨_,((t461 != t431)),(by first|rfl|(simp;done)|(simp [*];done)),H',⟨by first|omega|exact Nat.le_refl _⟩,⟨by exact Kd.R_mono HO448.out (fun _ hk=>⟨hk.1.1.2,⟨hk.1.2,hk.2⟩⟩)⟩,⟨by exact Kd.S_mono HO421.out (fun _ hk=>⟨hk.1.1.1.2,⟨hk.1.1.1.1.1.1.1.1.1.1.1,⟨hk.1.1.1.1.1.1.2,⟨hk.1.1.1.1.1.2,⟨hk.1.1.2,⟨hk.1.2,⟨hk.1.1.1.1.1.1.1.1.1.1.2,⟨hk.1.1.1.1.2,hk.2⟩⟩⟩⟩⟩⟩⟩⟩)⟩,⟨by exact Kd.R_mono HO424.out (fun _ hk=>⟨hk.1.2,⟨hk.1.1.2,hk.2⟩⟩)⟩,⟨by exact Kd.R_mono HO427.out (fun _ hk=>⟨hk.1.1.1.1.1.1,⟨hk.1.1.1.2,⟨hk.1.1.2,⟨hk.1.2,hk.2⟩⟩⟩⟩)⟩,⟨by exact Kd.R_mono HO430.out (fun _ hk=>⟨hk.1.1.1.1.1.1,⟨hk.1.1.1.2,⟨hk.1.1.2,⟨hk.1.2,hk.2⟩⟩⟩⟩)⟩,⟨by exact Kd.S_mono HO435.out (fun _ hk=>⟨hk.1.1.1.2,⟨hk.1.1.1.1.1.2,⟨hk.1.1.1.1.2,⟨hk.1.1.1.1.1.1.1,⟨hk.1.1.2,⟨hk.1.2,⟨hk.1.1.1.1.1.1.2,hk.2⟩⟩⟩⟩⟩⟩⟩)⟩,⟨by exact Kd.R_mono HO438.out (fun _ hk=>⟨hk.1.2,⟨hk.1.1.2,hk.2⟩⟩)⟩,⟨by exact Kd.R_mono HO441.out (fun _ hk=>⟨hk.1.1.1.2,⟨hk.1.1.2,⟨hk.1.1.1.1,⟨hk.1.2,hk.2⟩⟩⟩⟩)⟩,⟨by exact Kd.R_mono HO444.out (fun _ hk=>⟨hk.1.1.1.2,⟨hk.1.1.2,⟨hk.1.1.1.1,⟨hk.1.2,hk.2⟩⟩⟩⟩)⟩,⟨by exact Kd.S_mono HO451.out (fun _ hk=>⟨hk.2,⟨hk.1.1.1.1.2,⟨hk.1.1.1.2,⟨hk.1.1.2,⟨hk.1.2,⟨hk.1.1.1.1.1.1,hk.1.1.1.1.1.2⟩⟩⟩⟩⟩⟩)⟩,⟨by exact Kd.R_mono HO454.out (fun _ hk=>⟨hk.2,⟨hk.1.1.2,hk.1.2⟩⟩)⟩,⟨by exact Kd.R_mono HO457.out (fun _ hk=>⟨hk.1.1.1.2,⟨hk.1.1.2,⟨hk.1.2,⟨hk.2,hk.1.1.1.1⟩⟩⟩⟩)⟩,⟨by exact Kd.R_mono HO460.out (fun _ hk=>⟨hk.1.1.1.2,⟨hk.1.1.2,⟨hk.1.2,⟨hk.2,hk.1.1.1.1⟩⟩⟩⟩)⟩,⟨by exact BK402.out⟩,⟨by exact BK432.out⟩,⟨by exact BK445.out⟩,⟨by exact BK462.out⟩,⟨by repeat (first|(with_reducible first|exact HB.out|apply below_alloc|apply pw_below_drewN|apply below_drew1|refine below_set ?_ GE402.out|refine below_set ?_ GE432.out|refine below_set ?_ GE445.out|refine below_set ?_ GE462.out)|exact HB.out)⟩⟩
    ·replace c61:=Bool.eq_false_iff.mpr c61
     subst c61
     have H1 : (laws_FnExactPutIn.j0 k a1 l2 t431 t446 t461 true l0_0 l0_1 l0_2 l0_3 t419 t422 t425 t428 t433 t436 t439 t442 t449 t452 t455 t458) = some r:=by rw [if_neg (show ¬ (false = true) by decide)] at H;exact H
     clear H
     have H:=H1
     clear H1
     have H':=Aside0.mk H
     clear H
     have hnb70:=NB462_402.out
     have hnc70:=NB402_462.out
     have hnb71:=NB462_432.out
     have hnc71:=NB432_462.out
     have hnb72:=NB462_445.out
     have hnc72:=NB445_462.out
     have hcz73_0 : w51.cell? ⟨gb462,0,none⟩ = some (.slice none 0 0):=(blk_cell BK462.out 0).trans rfl
     have hcz73_1 : w51.cell? ⟨gb462,1,none⟩ = some (.slice none 0 0):=(blk_cell BK462.out 1).trans rfl
     have hcz73_2 : w51.cell? ⟨gb462,2,none⟩ = some (.slice none 0 0):=(blk_cell BK462.out 2).trans rfl
     have hcz73_3 : w51.cell? ⟨gb462,3,none⟩ = some (.slice none 0 0):=(blk_cell BK462.out 3).trans rfl
     have hfz73_0:=blk_frozen BK462.out 0
     have hfz73_1:=blk_frozen BK462.out 1
     have hfz73_2:=blk_frozen BK462.out 2
     have hfz73_3:=blk_frozen BK462.out 3
     have hnb74:=NB432_402.out
     have hnc74:=NB402_432.out
     have hnb75:=NB432_445.out
     have hnc75:=NB445_432.out
     have hcz76_0 : w51.cell? ⟨gb432,0,none⟩ = some (.slice Ao31 t419.length co31):=(blk_cell BK432.out 0).trans rfl
     have hcz76_1 : w51.cell? ⟨gb432,1,none⟩ = some (.slice Ao34 t422.length co34):=(blk_cell BK432.out 1).trans rfl
     have hcz76_2 : w51.cell? ⟨gb432,2,none⟩ = some (.slice Ao35 t425.length co35):=(blk_cell BK432.out 2).trans rfl
     have hcz76_3 : w51.cell? ⟨gb432,3,none⟩ = some (.slice Ao36 t428.length co36):=(blk_cell BK432.out 3).trans rfl
     have hfz76_0:=blk_frozen BK432.out 0
     have hfz76_1:=blk_frozen BK432.out 1
     have hfz76_2:=blk_frozen BK432.out 2
     have hfz76_3:=blk_frozen BK432.out 3
     go_wp2_with (first|((with_reducible refine gate_callee (f:=14) rfl ?_);refine goesL_ (some 49) rfl rfl Try.func14 (by kernel_rfl) rfl #[.agg #[.slice Ao52 t449.length co52,.slice Ao57 t452.length co57,.slice Ao58 t455.length co58,.slice Ao59 t458.length co59],.agg #[.slice Ao31 t419.length co31,.slice Ao34 t422.length co34,.slice Ao35 t425.length co35,.slice Ao36 t428.length co36]] rfl (by (try simp only [List.map_toArray,List.map_cons,List.map_nil]);first|done|rfl) ?_;(with_reducible refine (laws_eqSpace.calls k _ _ t449 _ _ t452 _ _ t455 _ _ t458 _ _ t419 _ _ t422 _ _ t425 _ _ t428 false _ ?side1 ?side2 ?side3 ?side4 ?side5 ?side6 ?side7 ?side8 ?side9 ?side10 ?side11 ?side12 ?side13 ?side14 ?side15 ?side16 A60.out).mono ?_);(case side1=>refine (Kd.S_reads' (e:=23) (base:=w.heap.size) (ok:=fun k_=>((((((some k_ ≠ (.slice Ao57 t452.length co57 : Value).ownBlock∧w47.heap.size ≤ k_)∧some k_ ≠ (.slice Ao31 t419.length co31 : Value).ownBlock)∧some k_ ≠ (.slice Ao34 t422.length co34 : Value).ownBlock)∧some k_ ≠ (.slice Ao40 t433.length co40 : Value).ownBlock)∧some k_ ≠ (.slice Ao44 t436.length co44 : Value).ownBlock)∧some k_ ≠ (.slice Ao49 t446.length co49 : Value).ownBlock)) (n:=t449.length) (c:=co52) ?_).2.2;exact (S_far4 HO451.out BK462.out (by decide)));(case side2=>exact (Kd.S_reads' HO451.out).2.1);(case side3=>refine (Kd.R_reads' (e:=5) (base:=w.heap.size) (ok:=fun k_=>(((True∧some k_ ≠ (.slice Ao34 t422.length co34 : Value).ownBlock)∧some k_ ≠ (.slice Ao44 t436.length co44 : Value).ownBlock)∧some k_ ≠ (.slice Ao49 t446.length co49 : Value).ownBlock)) (n:=t452.length) (c:=co57) ?_).2.2;exact (R_far4 HO454.out BK462.out (by decide)));(case side4=>exact (Kd.R_reads' HO454.out).2.1);(case side5=>refine (Kd.R_reads' (e:=3) (base:=w.heap.size) (ok:=fun k_=>((((some k_ ≠ (.slice Ao59 t458.length co59 : Value).ownBlock∧some k_ ≠ (.slice Ao35 t425.length co35 : Value).ownBlock)∧some k_ ≠ (.slice Ao36 t428.length co36 : Value).ownBlock)∧some k_ ≠ (.slice Ao45 t439.length co45 : Value).ownBlock)∧some k_ ≠ (.slice Ao46 t442.length co46 : Value).ownBlock)) (n:=t455.length) (c:=co58) ?_).2.2;exact (R_far4 HO457.out BK462.out (by decide)));(case side6=>exact (Kd.R_reads' HO457.out).2.1);(case side7=>refine (Kd.R_reads' (e:=3) (base:=w.heap.size) (ok:=fun k_=>((((some k_ ≠ (.slice Ao58 t455.length co58 : Value).ownBlock∧some k_ ≠ (.slice Ao35 t425.length co35 : Value).ownBlock)∧some k_ ≠ (.slice Ao36 t428.length co36 : Value).ownBlock)∧some k_ ≠ (.slice Ao45 t439.length co45 : Value).ownBlock)∧some k_ ≠ (.slice Ao46 t442.length co46 : Value).ownBlock)) (n:=t458.length) (c:=co59) ?_).2.2;exact (R_far4 HO460.out BK462.out (by decide)));(case side8=>exact (Kd.R_reads' HO460.out).2.1);(case side9=>refine (Kd.S_reads' (e:=23) (base:=w.heap.size) (ok:=fun k_=>(some k_ ≠ (.slice Ao34 t422.length co34 : Value).ownBlock∧(w23.heap.size ≤ k_∧(some k_ ≠ (.slice Ao40 t433.length co40 : Value).ownBlock∧(some k_ ≠ (.slice Ao44 t436.length co44 : Value).ownBlock∧(k_ < w30.heap.size∧(some k_ ≠ (.slice Ao49 t446.length co49 : Value).ownBlock∧(some k_ ≠ (.slice Ao52 t449.length co52 : Value).ownBlock∧(some k_ ≠ (.slice Ao57 t452.length co57 : Value).ownBlock∧k_ < w47.heap.size))))))))) (n:=t419.length) (c:=co31) ?_).2.2;exact (by exact Kd.S_mono (S_far4n HO421.out BK462.out (by decide)) (fun _ hk=>⟨hk.1.1.1.1.1.1.1.1.1.1.1.1,⟨hk.1.1.1.1.1.1.1.1.1.1.1.2,⟨hk.1.1.1.1.1.1.1.2,⟨hk.1.1.1.1.1.1.2,⟨hk.1.1.1.1.1.2,⟨hk.1.1.1.1.2,⟨hk.1.1.1.2,⟨hk.1.1.2,hk.1.2⟩⟩⟩⟩⟩⟩⟩⟩)));(case side10=>exact (Kd.S_reads' HO421.out).2.1);(case side11=>refine (Kd.R_reads' (e:=5) (base:=w.heap.size) (ok:=fun k_=>(some k_ ≠ (.slice Ao44 t436.length co44 : Value).ownBlock∧(some k_ ≠ (.slice Ao49 t446.length co49 : Value).ownBlock∧some k_ ≠ (.slice Ao57 t452.length co57 : Value).ownBlock))) (n:=t422.length) (c:=co34) ?_).2.2;exact (by exact Kd.R_mono (R_far4n HO424.out BK462.out (by decide)) (fun _ hk=>⟨hk.1.1.1.2,⟨hk.1.1.2,hk.1.2⟩⟩)));(case side12=>exact (Kd.R_reads' HO424.out).2.1);(case side13=>refine (Kd.R_reads' (e:=3) (base:=w.heap.size) (ok:=fun k_=>(some k_ ≠ (.slice Ao36 t428.length co36 : Value).ownBlock∧(some k_ ≠ (.slice Ao45 t439.length co45 : Value).ownBlock∧(some k_ ≠ (.slice Ao46 t442.length co46 : Value).ownBlock∧(some k_ ≠ (.slice Ao58 t455.length co58 : Value).ownBlock∧some k_ ≠ (.slice Ao59 t458.length co59 : Value).ownBlock))))) (n:=t425.length) (c:=co35) ?_).2.2;exact (by exact Kd.R_mono (R_far4n HO427.out BK462.out (by decide)) (fun _ hk=>⟨hk.1.1.1.1.1.1.1,⟨hk.1.1.1.1.2,⟨hk.1.1.1.2,⟨hk.1.1.2,hk.1.2⟩⟩⟩⟩)));(case side14=>exact (Kd.R_reads' HO427.out).2.1);(case side15=>refine (Kd.R_reads' (e:=3) (base:=w.heap.size) (ok:=fun k_=>(some k_ ≠ (.slice Ao35 t425.length co35 : Value).ownBlock∧(some k_ ≠ (.slice Ao45 t439.length co45 : Value).ownBlock∧(some k_ ≠ (.slice Ao46 t442.length co46 : Value).ownBlock∧(some k_ ≠ (.slice Ao58 t455.length co58 : Value).ownBlock∧some k_ ≠ (.slice Ao59 t458.length co59 : Value).ownBlock))))) (n:=t428.length) (c:=co36) ?_).2.2;exact (by exact Kd.R_mono (R_far4n HO430.out BK462.out (by decide)) (fun _ hk=>⟨hk.1.1.1.1.1.1.1,⟨hk.1.1.1.1.2,⟨hk.1.1.1.2,⟨hk.1.1.2,hk.1.2⟩⟩⟩⟩)));(case side16=>exact (Kd.R_reads' HO430.out).2.1);rintro e w77 ⟨rfl,hb⟩;refine ⟨_,rfl,?_⟩;replace HO421:=Aside0.mk (Kd.S_below (S_far4 HO421.out BK462.out (by decide)) hb);replace HO424:=Aside0.mk (Kd.R_below (R_far4 HO424.out BK462.out (by decide)) hb);replace HO427:=Aside0.mk (Kd.R_below (R_far4 HO427.out BK462.out (by decide)) hb);replace HO430:=Aside0.mk (Kd.R_below (R_far4 HO430.out BK462.out (by decide)) hb);replace HO435:=Aside0.mk (Kd.S_below (S_far4 HO435.out BK462.out (by decide)) hb);replace HO438:=Aside0.mk (Kd.R_below (R_far4 HO438.out BK462.out (by decide)) hb);replace HO441:=Aside0.mk (Kd.R_below (R_far4 HO441.out BK462.out (by decide)) hb);replace HO444:=Aside0.mk (Kd.R_below (R_far4 HO444.out BK462.out (by decide)) hb);replace HO448:=Aside0.mk (Kd.R_below (R_far4 HO448.out BK462.out (by decide)) hb);replace HO451:=Aside0.mk (Kd.S_below (S_far4 HO451.out BK462.out (by decide)) hb);replace HO454:=Aside0.mk (Kd.R_below (R_far4 HO454.out BK462.out (by decide)) hb);replace HO457:=Aside0.mk (Kd.R_below (R_far4 HO457.out BK462.out (by decide)) hb);replace HO460:=Aside0.mk (Kd.R_below (R_far4 HO460.out BK462.out (by decide)) hb);replace BK402:=Aside0.mk (blk_below (g:=gb402) (o:=.cells #[.slice A0_0 l0_0.length c0_0,.slice A0_1 l0_1.length c0_1,.slice A0_2 l0_2.length c0_2,.slice A0_3 l0_3.length c0_3] 26 (0,0)) (by refine blk_far ?_ NB402_462.out _;refine blk_far ?_ NB402_462.out _;refine blk_far ?_ NB402_462.out _;refine blk_far ?_ NB402_462.out _;exact BK402.out) hb);replace BK432:=Aside0.mk (blk_below (g:=gb432) (o:=.cells #[.slice Ao31 t419.length co31,.slice Ao34 t422.length co34,.slice Ao35 t425.length co35,.slice Ao36 t428.length co36] 29 (0,0)) (by refine blk_far ?_ NB432_462.out _;refine blk_far ?_ NB432_462.out _;refine blk_far ?_ NB432_462.out _;refine blk_far ?_ NB432_462.out _;exact BK432.out) hb);replace BK445:=Aside0.mk (blk_below (g:=gb445) (o:=.cells #[.slice Ao40 t433.length co40,.slice Ao44 t436.length co44,.slice Ao45 t439.length co45,.slice Ao46 t442.length co46] 29 (0,0)) (by refine blk_far ?_ NB445_462.out _;refine blk_far ?_ NB445_462.out _;refine blk_far ?_ NB445_462.out _;refine blk_far ?_ NB445_462.out _;exact BK445.out) hb);replace BK462:=Aside0.mk (blk_below (g:=gb462) (o:=.cells #[.slice Ao52 t449.length co52,.slice Ao57 t452.length co57,.slice Ao58 t455.length co58,.slice Ao59 t458.length co59] 29 (0,0)) (by refine blk_put (cs:=#[.slice Ao52 t449.length co52,.slice Ao57 t452.length co57,.slice Ao58 t455.length co58,.slice none 0 0]) ?_ 3 _ rfl;refine blk_put (cs:=#[.slice Ao52 t449.length co52,.slice Ao57 t452.length co57,.slice none 0 0,.slice none 0 0]) ?_ 2 _ rfl;refine blk_put (cs:=#[.slice Ao52 t449.length co52,.slice none 0 0,.slice none 0 0,.slice none 0 0]) ?_ 1 _ rfl;refine blk_put (cs:=#[.slice none 0 0,.slice none 0 0,.slice none 0 0,.slice none 0 0]) ?_ 0 _ rfl;exact BK462.out) hb);replace HB:=Aside0.mk (below_step (by repeat (first|(with_reducible first|exact HB.out|apply below_alloc|apply pw_below_drewN|apply below_drew1|refine below_set ?_ GE402.out|refine below_set ?_ GE432.out|refine below_set ?_ GE445.out|refine below_set ?_ GE462.out)|exact HB.out)) hb);clear hb))
     go_meet
     case rel=>exact ⟨_,(true),(by first|rfl|(simp;done)|(simp [*];done)),H',⟨by first|omega|exact Nat.le_refl _⟩,⟨by exact Kd.R_mono HO448.out (fun _ hk=>⟨hk.1.1.2,⟨hk.1.2,hk.2⟩⟩)⟩,⟨by exact Kd.S_mono HO421.out (fun _ hk=>⟨hk.1.1.1.2,⟨hk.1.1.1.1.1.1.1.1.1.1.1,⟨hk.1.1.1.1.1.1.2,⟨hk.1.1.1.1.1.2,⟨hk.1.1.2,⟨hk.1.2,⟨hk.1.1.1.1.1.1.1.1.1.1.2,⟨hk.1.1.1.1.2,hk.2⟩⟩⟩⟩⟩⟩⟩⟩)⟩,⟨by exact Kd.R_mono HO424.out (fun _ hk=>⟨hk.1.2,⟨hk.1.1.2,hk.2⟩⟩)⟩,⟨by exact Kd.R_mono HO427.out (fun _ hk=>⟨hk.1.1.1.1.1.1,⟨hk.1.1.1.2,⟨hk.1.1.2,⟨hk.1.2,hk.2⟩⟩⟩⟩)⟩,⟨by exact Kd.R_mono HO430.out (fun _ hk=>⟨hk.1.1.1.1.1.1,⟨hk.1.1.1.2,⟨hk.1.1.2,⟨hk.1.2,hk.2⟩⟩⟩⟩)⟩,⟨by exact Kd.S_mono HO435.out (fun _ hk=>⟨hk.1.1.1.2,⟨hk.1.1.1.1.1.2,⟨hk.1.1.1.1.2,⟨hk.1.1.1.1.1.1.1,⟨hk.1.1.2,⟨hk.1.2,⟨hk.1.1.1.1.1.1.2,hk.2⟩⟩⟩⟩⟩⟩⟩)⟩,⟨by exact Kd.R_mono HO438.out (fun _ hk=>⟨hk.1.2,⟨hk.1.1.2,hk.2⟩⟩)⟩,⟨by exact Kd.R_mono HO441.out (fun _ hk=>⟨hk.1.1.1.2,⟨hk.1.1.2,⟨hk.1.1.1.1,⟨hk.1.2,hk.2⟩⟩⟩⟩)⟩,⟨by exact Kd.R_mono HO444.out (fun _ hk=>⟨hk.1.1.1.2,⟨hk.1.1.2,⟨hk.1.1.1.1,⟨hk.1.2,hk.2⟩⟩⟩⟩)⟩,⟨by exact Kd.S_mono HO451.out (fun _ hk=>⟨hk.2,⟨hk.1.1.1.1.2,⟨hk.1.1.1.2,⟨hk.1.1.2,⟨hk.1.2,⟨hk.1.1.1.1.1.1,hk.1.1.1.1.1.2⟩⟩⟩⟩⟩⟩)⟩,⟨by exact Kd.R_mono HO454.out (fun _ hk=>⟨hk.2,⟨hk.1.1.2,hk.1.2⟩⟩)⟩,⟨by exact Kd.R_mono HO457.out (fun _ hk=>⟨hk.1.1.1.2,⟨hk.1.1.2,⟨hk.1.2,⟨hk.2,hk.1.1.1.1⟩⟩⟩⟩)⟩,⟨by exact Kd.R_mono HO460.out (fun _ hk=>⟨hk.1.1.1.2,⟨hk.1.1.2,⟨hk.1.2,⟨hk.2,hk.1.1.1.1⟩⟩⟩⟩)⟩,⟨by exact BK402.out⟩,⟨by exact BK432.out⟩,⟨by exact BK445.out⟩,⟨by exact BK462.out⟩,⟨by repeat (first|(with_reducible first|exact HB.out|apply below_alloc|apply pw_below_drewN|apply below_drew1|refine below_set ?_ GE402.out|refine below_set ?_ GE432.out|refine below_set ?_ GE445.out|refine below_set ?_ GE462.out)|exact HB.out)⟩⟩
   case rest =>
    clear HC17
    try clear c1;try clear c2;try clear p2;try clear c3;try clear c4;try clear c4b0;try clear c4b1;try clear c5;try clear c6;try clear c7;try clear c7b0;try clear c10;try clear c12;try clear c14;try clear c30;try clear c31;try clear c32;try clear c41;try clear c42;try clear c53;try clear c54;try clear c55;try clear c61;try clear c62;try clear c63;try clear c64;try clear c66;try clear c67;try clear c70;try clear c71;try clear c72;try clear c74;try clear c75;try clear hcz19_0;try clear hcz19_1;try clear hcz19_2;try clear hcz19_3;try clear hcz21_0;try clear hcz21_1;try clear hcz21_2;try clear hcz21_3;try clear hcz33_0;try clear hcz33_1;try clear hcz33_2;try clear hcz33_3;try clear hcz37_0;try clear hcz37_1;try clear hcz37_2;try clear hcz37_3;try clear hcz43_0;try clear hcz43_1;try clear hcz43_2;try clear hcz43_3;try clear hcz48_0;try clear hcz48_1;try clear hcz48_2;try clear hcz48_3;try clear hcz56_0;try clear hcz56_1;try clear hcz56_2;try clear hcz56_3;try clear hcz65_0;try clear hcz65_1;try clear hcz65_2;try clear hcz65_3;try clear hcz68_0;try clear hcz68_1;try clear hcz68_2;try clear hcz68_3;try clear hcz73_0;try clear hcz73_1;try clear hcz73_2;try clear hcz73_3;try clear hcz76_0;try clear hcz76_1;try clear hcz76_2;try clear hcz76_3;try clear hcz9_0;try clear hcz9_1;try clear hcz9_2;try clear hcz9_3;try clear hfz19_0;try clear hfz19_1;try clear hfz19_2;try clear hfz19_3;try clear hfz21_0;try clear hfz21_1;try clear hfz21_2;try clear hfz21_3;try clear hfz33_0;try clear hfz33_1;try clear hfz33_2;try clear hfz33_3;try clear hfz37_0;try clear hfz37_1;try clear hfz37_2;try clear hfz37_3;try clear hfz43_0;try clear hfz43_1;try clear hfz43_2;try clear hfz43_3;try clear hfz48_0;try clear hfz48_1;try clear hfz48_2;try clear hfz48_3;try clear hfz56_0;try clear hfz56_1;try clear hfz56_2;try clear hfz56_3;try clear hfz65_0;try clear hfz65_1;try clear hfz65_2;try clear hfz65_3;try clear hfz68_0;try clear hfz68_1;try clear hfz68_2;try clear hfz68_3;try clear hfz73_0;try clear hfz73_1;try clear hfz73_2;try clear hfz73_3;try clear hfz76_0;try clear hfz76_1;try clear hfz76_2;try clear hfz76_3;try clear hfz9_0;try clear hfz9_1;try clear hfz9_2;try clear hfz9_3
    obtain ⟨kq,x55_16,rfl,HA,HJ16,HO_11,HO_433000,HO_433001,HO_433002,HO_433003,HO_446000,HO_446001,HO_446002,HO_446003,HO_463000,HO_463001,HO_463002,HO_463003,BK402,BK432,BK445,BK462,HB⟩:=hcut
    cases kq with
    | zero=>exact absurd HA.out (by simp [laws_FnExactPutIn.j0])
    | succ kj16 =>
     have H:=HA.out
     clear HA
     simp only [laws_FnExactPutIn.j0] at H
     by_cases c78 : x55_16 = true
     ·subst c78
      have H1 : (some false) = some r:=by rw [if_pos rfl] at H;exact H
      clear H
      have H:=H1
      clear H1
      obtain rfl:=Option.some.inj H
      go_wp2
      go_ret
      exact ⟨by first|rfl|(simp [*,errW_none,errW_some] <;> rfl),by repeat (first|(with_reducible first|exact HB.out|apply below_alloc|apply pw_below_drewN|apply below_drew1|refine below_set ?_ GE402.out|refine below_set ?_ GE432.out|refine below_set ?_ GE445.out|refine below_set ?_ GE462.out)|exact HB.out)⟩
     ·replace c78:=Bool.eq_false_iff.mpr c78
      subst c78
      have H1 : ((laws_toSpace.f kj16 l0_0 l0_1 l0_2 l0_3).bind fun bt464=>((laws_eqSpace.f kj16 t433 t436 t439 t442 bt464.1 bt464.2.1 bt464.2.2.1 bt464.2.2.2).bind fun t476=>(if t476 = true then ((laws_toByteS.f kj16 l2).bind fun t477=>((laws_eqByteS.f kj16 t446 t477).bind fun t480=>(if t480 = true then ((laws_markSpace.f kj16 t433 t436 t439 t442 1).bind fun bt481=>((laws_markByteS.f kj16 t446 bt481.1).bind fun bt486=>(if bt486.1 < 0 then (laws_FnExactPutIn.j1 kj16 a1 l2 t431 true l0_0 l0_1 l0_2 l0_3 t419 t422 t425 t428 t449 t452 t455 t458) else ((laws_eqSpace.f kj16 t449 t452 t455 t458 t419 t422 t425 t428).bind fun t488=>(if t488 = true then (laws_FnExactPutIn.j1 kj16 a1 l2 t431 (t461 != t431) l0_0 l0_1 l0_2 l0_3 t419 t422 t425 t428 t449 t452 t455 t458) else (laws_FnExactPutIn.j1 kj16 a1 l2 t431 true l0_0 l0_1 l0_2 l0_3 t419 t422 t425 t428 t449 t452 t455 t458)))))) else (some false)))) else (some false)))) = some r:=by rw [if_neg (show ¬ (false = true) by decide)] at H;exact H
      clear H
      have H:=H1
      clear H1
      replace H:=Option.bind_eq_some_iff.mp H
      obtain ⟨⟨t464,t467,t470,t473⟩,A790,H⟩:=H
      replace H : ((laws_eqSpace.f kj16 t433 t436 t439 t442 t464 t467 t470 t473).bind fun t476=>(if t476 = true then ((laws_toByteS.f kj16 l2).bind fun t477=>((laws_eqByteS.f kj16 t446 t477).bind fun t480=>(if t480 = true then ((laws_markSpace.f kj16 t433 t436 t439 t442 1).bind fun bt481=>((laws_markByteS.f kj16 t446 bt481.1).bind fun bt486=>(if bt486.1 < 0 then (laws_FnExactPutIn.j1 kj16 a1 l2 t431 true l0_0 l0_1 l0_2 l0_3 t419 t422 t425 t428 t449 t452 t455 t458) else ((laws_eqSpace.f kj16 t449 t452 t455 t458 t419 t422 t425 t428).bind fun t488=>(if t488 = true then (laws_FnExactPutIn.j1 kj16 a1 l2 t431 (t461 != t431) l0_0 l0_1 l0_2 l0_3 t419 t422 t425 t428 t449 t452 t455 t458) else (laws_FnExactPutIn.j1 kj16 a1 l2 t431 true l0_0 l0_1 l0_2 l0_3 t419 t422 t425 t428 t449 t452 t455 t458)))))) else (some false)))) else (some false))) = some r:=H
      have A79:=Aside0.mk A790
      clear A790
      replace H:=Option.bind_eq_some_iff.mp H
      obtain ⟨t476,A800,H⟩:=H
      replace H : (if t476 = true then ((laws_toByteS.f kj16 l2).bind fun t477=>((laws_eqByteS.f kj16 t446 t477).bind fun t480=>(if t480 = true then ((laws_markSpace.f kj16 t433 t436 t439 t442 1).bind fun bt481=>((laws_markByteS.f kj16 t446 bt481.1).bind fun bt486=>(if bt486.1 < 0 then (laws_FnExactPutIn.j1 kj16 a1 l2 t431 true l0_0 l0_1 l0_2 l0_3 t419 t422 t425 t428 t449 t452 t455 t458) else ((laws_eqSpace.f kj16 t449 t452 t455 t458 t419 t422 t425 t428).bind fun t488=>(if t488 = true then (laws_FnExactPutIn.j1 kj16 a1 l2 t431 (t461 != t431) l0_0 l0_1 l0_2 l0_3 t419 t422 t425 t428 t449 t452 t455 t458) else (laws_FnExactPutIn.j1 kj16 a1 l2 t431 true l0_0 l0_1 l0_2 l0_3 t419 t422 t425 t428 t449 t452 t455 t458)))))) else (some false)))) else (some false)) = some r:=H
      have A80:=Aside0.mk A800
      clear A800
      by_cases c81 : t476 = true
      ·subst c81
       have H1 : ((laws_toByteS.f kj16 l2).bind fun t477=>((laws_eqByteS.f kj16 t446 t477).bind fun t480=>(if t480 = true then ((laws_markSpace.f kj16 t433 t436 t439 t442 1).bind fun bt481=>((laws_markByteS.f kj16 t446 bt481.1).bind fun bt486=>(if bt486.1 < 0 then (laws_FnExactPutIn.j1 kj16 a1 l2 t431 true l0_0 l0_1 l0_2 l0_3 t419 t422 t425 t428 t449 t452 t455 t458) else ((laws_eqSpace.f kj16 t449 t452 t455 t458 t419 t422 t425 t428).bind fun t488=>(if t488 = true then (laws_FnExactPutIn.j1 kj16 a1 l2 t431 (t461 != t431) l0_0 l0_1 l0_2 l0_3 t419 t422 t425 t428 t449 t452 t455 t458) else (laws_FnExactPutIn.j1 kj16 a1 l2 t431 true l0_0 l0_1 l0_2 l0_3 t419 t422 t425 t428 t449 t452 t455 t458)))))) else (some false)))) = some r:=by rw [if_pos rfl] at H;exact H
       clear H
       have H:=H1
       clear H1
       replace H:=Option.bind_eq_some_iff.mp H
       obtain ⟨t477,A820,H⟩:=H
       replace H : ((laws_eqByteS.f kj16 t446 t477).bind fun t480=>(if t480 = true then ((laws_markSpace.f kj16 t433 t436 t439 t442 1).bind fun bt481=>((laws_markByteS.f kj16 t446 bt481.1).bind fun bt486=>(if bt486.1 < 0 then (laws_FnExactPutIn.j1 kj16 a1 l2 t431 true l0_0 l0_1 l0_2 l0_3 t419 t422 t425 t428 t449 t452 t455 t458) else ((laws_eqSpace.f kj16 t449 t452 t455 t458 t419 t422 t425 t428).bind fun t488=>(if t488 = true then (laws_FnExactPutIn.j1 kj16 a1 l2 t431 (t461 != t431) l0_0 l0_1 l0_2 l0_3 t419 t422 t425 t428 t449 t452 t455 t458) else (laws_FnExactPutIn.j1 kj16 a1 l2 t431 true l0_0 l0_1 l0_2 l0_3 t419 t422 t425 t428 t449 t452 t455 t458)))))) else (some false))) = some r:=H
       have A82:=Aside0.mk A820
       clear A820
       replace H:=Option.bind_eq_some_iff.mp H
       obtain ⟨t480,A830,H⟩:=H
       replace H : (if t480 = true then ((laws_markSpace.f kj16 t433 t436 t439 t442 1).bind fun bt481=>((laws_markByteS.f kj16 t446 bt481.1).bind fun bt486=>(if bt486.1 < 0 then (laws_FnExactPutIn.j1 kj16 a1 l2 t431 true l0_0 l0_1 l0_2 l0_3 t419 t422 t425 t428 t449 t452 t455 t458) else ((laws_eqSpace.f kj16 t449 t452 t455 t458 t419 t422 t425 t428).bind fun t488=>(if t488 = true then (laws_FnExactPutIn.j1 kj16 a1 l2 t431 (t461 != t431) l0_0 l0_1 l0_2 l0_3 t419 t422 t425 t428 t449 t452 t455 t458) else (laws_FnExactPutIn.j1 kj16 a1 l2 t431 true l0_0 l0_1 l0_2 l0_3 t419 t422 t425 t428 t449 t452 t455 t458)))))) else (some false)) = some r:=H
       have A83:=Aside0.mk A830
       clear A830
       by_cases c84 : t480 = true
       ·subst c84
        have H1 : ((laws_markSpace.f kj16 t433 t436 t439 t442 1).bind fun bt481=>((laws_markByteS.f kj16 t446 bt481.1).bind fun bt486=>(if bt486.1 < 0 then (laws_FnExactPutIn.j1 kj16 a1 l2 t431 true l0_0 l0_1 l0_2 l0_3 t419 t422 t425 t428 t449 t452 t455 t458) else ((laws_eqSpace.f kj16 t449 t452 t455 t458 t419 t422 t425 t428).bind fun t488=>(if t488 = true then (laws_FnExactPutIn.j1 kj16 a1 l2 t431 (t461 != t431) l0_0 l0_1 l0_2 l0_3 t419 t422 t425 t428 t449 t452 t455 t458) else (laws_FnExactPutIn.j1 kj16 a1 l2 t431 true l0_0 l0_1 l0_2 l0_3 t419 t422 t425 t428 t449 t452 t455 t458)))))) = some r:=by rw [if_pos rfl] at H;exact H
        clear H
        have H:=H1
        clear H1
        replace H:=Option.bind_eq_some_iff.mp H
        obtain ⟨⟨t481,t482,t483,t484,t485⟩,A850,H⟩:=H
        replace H : ((laws_markByteS.f kj16 t446 t481).bind fun bt486=>(if bt486.1 < 0 then (laws_FnExactPutIn.j1 kj16 a1 l2 t431 true l0_0 l0_1 l0_2 l0_3 t419 t422 t425 t428 t449 t452 t455 t458) else ((laws_eqSpace.f kj16 t449 t452 t455 t458 t419 t422 t425 t428).bind fun t488=>(if t488 = true then (laws_FnExactPutIn.j1 kj16 a1 l2 t431 (t461 != t431) l0_0 l0_1 l0_2 l0_3 t419 t422 t425 t428 t449 t452 t455 t458) else (laws_FnExactPutIn.j1 kj16 a1 l2 t431 true l0_0 l0_1 l0_2 l0_3 t419 t422 t425 t428 t449 t452 t455 t458))))) = some r:=H
        have A85:=Aside0.mk A850
        clear A850
        replace H:=Option.bind_eq_some_iff.mp H
        obtain ⟨⟨t486,t487⟩,A860,H⟩:=H
        replace H : (if t486 < 0 then (laws_FnExactPutIn.j1 kj16 a1 l2 t431 true l0_0 l0_1 l0_2 l0_3 t419 t422 t425 t428 t449 t452 t455 t458) else ((laws_eqSpace.f kj16 t449 t452 t455 t458 t419 t422 t425 t428).bind fun t488=>(if t488 = true then (laws_FnExactPutIn.j1 kj16 a1 l2 t431 (t461 != t431) l0_0 l0_1 l0_2 l0_3 t419 t422 t425 t428 t449 t452 t455 t458) else (laws_FnExactPutIn.j1 kj16 a1 l2 t431 true l0_0 l0_1 l0_2 l0_3 t419 t422 t425 t428 t449 t452 t455 t458)))) = some r:=H
        have A86:=Aside0.mk A860
        clear A860
        have HC87:=Aside0.mk H
        clear H
        try go_wp2
        have n0_:=Aside0.mk (Kd.R_drew HO_11.out)
        have n1_:=Aside0.mk (Kd.S_drew HO_433000.out)
        have n2_:=Aside0.mk (Kd.R_drew HO_433001.out)
        have n3_:=Aside0.mk (Kd.R_drew HO_433002.out)
        have n4_:=Aside0.mk (Kd.R_drew HO_433003.out)
        have n5_:=Aside0.mk (Kd.S_drew HO_446000.out)
        have n6_:=Aside0.mk (Kd.R_drew HO_446001.out)
        have n7_:=Aside0.mk (Kd.R_drew HO_446002.out)
        have n8_:=Aside0.mk (Kd.R_drew HO_446003.out)
        have n9_:=Aside0.mk (Kd.S_drew HO_463000.out)
        have n10_:=Aside0.mk (Kd.R_drew HO_463001.out)
        have n11_:=Aside0.mk (Kd.R_drew HO_463002.out)
        have n12_:=Aside0.mk (Kd.R_drew HO_463003.out)
        have n13_:=Aside0.mk (blk_drew BK402.out)
        have n14_:=Aside0.mk (blk_drew BK432.out)
        have n15_:=Aside0.mk (blk_drew BK445.out)
        have n16_:=Aside0.mk (blk_drew BK462.out)
        have n17_:=Aside0.mk (below_drew1 HB.out)
        clear HO_11
        clear HO_433000
        clear HO_433001
        clear HO_433002
        clear HO_433003
        clear HO_446000
        clear HO_446001
        clear HO_446002
        clear HO_446003
        clear HO_463000
        clear HO_463001
        clear HO_463002
        clear HO_463003
        clear BK402
        clear BK432
        clear BK445
        clear BK462
        clear HB
        have HO_11:=n0_
        have HO_433000:=n1_
        have HO_433001:=n2_
        have HO_433002:=n3_
        have HO_433003:=n4_
        have HO_446000:=n5_
        have HO_446001:=n6_
        have HO_446002:=n7_
        have HO_446003:=n8_
        have HO_463000:=n9_
        have HO_463001:=n10_
        have HO_463002:=n11_
        have HO_463003:=n12_
        have BK402:=n13_
        have BK432:=n14_
        have BK445:=n15_
        have BK462:=n16_
        have HB:=n17_
        clear n0_ n1_ n2_ n3_ n4_ n5_ n6_ n7_ n8_ n9_ n10_ n11_ n12_ n13_ n14_ n15_ n16_ n17_
        refine start_ (n:=5) (S:=fun w'=>w'.cell? ⟨gb445,0,none⟩ = some (.slice Ao40 t433.length co40)∧w'.cell? ⟨gb445,1,none⟩ = some (.slice Ao44 t436.length co44)∧w'.cell? ⟨gb445,2,none⟩ = some (.slice Ao45 t439.length co45)∧w'.cell? ⟨gb445,3,none⟩ = some (.slice Ao46 t442.length co46)∧w'.cell? ⟨gb402,0,none⟩ = some (.slice A0_0 l0_0.length c0_0)∧w'.cell? ⟨gb402,1,none⟩ = some (.slice A0_1 l0_1.length c0_1)∧w'.cell? ⟨gb402,2,none⟩ = some (.slice A0_2 l0_2.length c0_2)∧w'.cell? ⟨gb402,3,none⟩ = some (.slice A0_3 l0_3.length c0_3)) (ds:=[]) #[false,false,false,false,false] (by kernel_rfl) rfl rfl ⟨(blk_cell BK445.out 0).trans rfl,(blk_cell BK445.out 1).trans rfl,(blk_cell BK445.out 2).trans rfl,(blk_cell BK445.out 3).trans rfl,(blk_cell BK402.out 0).trans rfl,(blk_cell BK402.out 1).trans rfl,(blk_cell BK402.out 2).trans rfl,(blk_cell BK402.out 3).trans rfl⟩ (fun hHeld=>?_)
        generalize wc.drew = w88 at HO_11 HO_433000 HO_433001 HO_433002 HO_433003 HO_446000 HO_446001 HO_446002 HO_446003 HO_463000 HO_463001 HO_463002 HO_463003 BK402 BK432 BK445 BK462 HB hHeld ⊢
        refine take_ (i:=0) (N:=some 56) (v:=?_) (a':=?_) #[true,false,false,false,false] rfl rfl (by kernel_rfl) (fun _ _ _ h=>h) (Or.inl ⟨by rfl,?_⟩) hHeld ?_ ?_
        rotate_left
        ·rintro w' ⟨s0,s1,s2,s3,s4,s5,s6,s7⟩
         go_simp
         with_reducible rfl
        rotate_left
        ·simp only [Act.put,List.setIfInBounds_toArray,List.set_cons_zero,List.set_cons_succ,i64_w,i32_w]
         rfl
        refine take_ (i:=1) (N:=some 57) (v:=?_) (a':=?_) #[true,true,false,false,false] rfl rfl (by kernel_rfl) (fun _ _ _ h=>h) (Or.inl ⟨by rfl,?_⟩) hHeld ?_ ?_
        rotate_left
        ·rintro w' ⟨s0,s1,s2,s3,s4,s5,s6,s7⟩
         go_simp
         with_reducible rfl
        rotate_left
        ·simp only [Act.put,List.setIfInBounds_toArray,List.set_cons_zero,List.set_cons_succ,i64_w,i32_w]
         rfl
        refine one_ (i:=2) (N:=some 58) #[true,true,true,false,false] rfl rfl (by kernel_rfl) (by decide) (fun K hK=>?_)
        refine goes_ Try.func12 (by kernel_rfl) rfl #[.agg #[.slice A0_0 l0_0.length c0_0,.slice A0_1 l0_1.length c0_1,.slice A0_2 l0_2.length c0_2,.slice A0_3 l0_3.length c0_3]] (by rfl) rfl rfl (by (try simp only [List.map_toArray,List.map_cons,List.map_nil]);first|done|rfl|(simp only [List.length_drop,List.length_take];rfl)) ?_
        with_reducible refine (laws_toSpace.calls kj16 _ _ l0_0 _ _ l0_1 _ _ l0_2 _ _ l0_3 t464 t467 t470 t473 _ ?side1 ?side2 ?side3 ?side4 ?side5 ?side6 ?side7 ?side8 A79.out).mono ?_
        (case side1=>exact (Kd.C_below HR0_0.out HB.out))
        (case side2=>exact HC0_0.out)
        (case side3=>exact (Kd.C_below HR0_1.out HB.out))
        (case side4=>exact HC0_1.out)
        (case side5=>exact (Kd.C_below HR0_2.out HB.out))
        (case side6=>exact HC0_2.out)
        (case side7=>exact (Kd.C_below HR0_3.out HB.out))
        (case side8=>exact HC0_3.out)
        rintro e w89 ⟨v465,v468,v471,v474,rfl,ho0,ho1,ho2,ho3,hb⟩
        refine ⟨_,rfl,?_⟩
        have n0_:=Aside0.mk (Kd.R_elder' HO_11.out (Kd.R_base ho1) hb)
        have n1_:=Aside0.mk (Kd.S_told (Kd.S_told (Kd.S_old HO_433000.out hb) (Kd.S_base ho0)) (Kd.R_base ho1))
        have n2_:=Aside0.mk (Kd.R_elder' HO_433001.out (Kd.R_base ho1) hb)
        have n3_:=Aside0.mk (Kd.R_mono (Kd.R_told (Kd.R_told (Kd.R_old HO_433002.out hb) (Kd.R_base ho2)) (Kd.R_base ho3)) (fun _ h_=>h_.1))
        have n4_:=Aside0.mk (Kd.R_mono (Kd.R_told (Kd.R_told (Kd.R_old HO_433003.out hb) (Kd.R_base ho2)) (Kd.R_base ho3)) (fun _ h_=>h_.1))
        have n5_:=Aside0.mk (Kd.S_told (Kd.S_told (Kd.S_old HO_446000.out hb) (Kd.S_base ho0)) (Kd.R_base ho1))
        have n6_:=Aside0.mk (Kd.R_elder' HO_446001.out (Kd.R_base ho1) hb)
        have n7_:=Aside0.mk (Kd.R_mono (Kd.R_told (Kd.R_told (Kd.R_old HO_446002.out hb) (Kd.R_base ho2)) (Kd.R_base ho3)) (fun _ h_=>h_.1))
        have n8_:=Aside0.mk (Kd.R_mono (Kd.R_told (Kd.R_told (Kd.R_old HO_446003.out hb) (Kd.R_base ho2)) (Kd.R_base ho3)) (fun _ h_=>h_.1))
        have n9_:=Aside0.mk (Kd.S_told (Kd.S_told (Kd.S_old HO_463000.out hb) (Kd.S_base ho0)) (Kd.R_base ho1))
        have n10_:=Aside0.mk (Kd.R_elder' HO_463001.out (Kd.R_base ho1) hb)
        have n11_:=Aside0.mk (Kd.R_mono (Kd.R_told (Kd.R_told (Kd.R_old HO_463002.out hb) (Kd.R_base ho2)) (Kd.R_base ho3)) (fun _ h_=>h_.1))
        have n12_:=Aside0.mk (Kd.R_mono (Kd.R_told (Kd.R_told (Kd.R_old HO_463003.out hb) (Kd.R_base ho2)) (Kd.R_base ho3)) (fun _ h_=>h_.1))
        have n13_:=Aside0.mk (Kd.S_lower (Kd.S_new' (Kd.S_new' (Kd.S_new' (Kd.S_new' (Kd.S_new' (Kd.S_new' (Kd.S_new' (Kd.S_mono (Kd.S_bound ho0) (fun k_ h_=>(⟨h_.1,(by first|exact h_.2.1|simpa only [World.size_setCell] using h_.2.1)⟩ : _∧w88.heap.size ≤ k_))) (Kd.R_lt HO_11.out)) (Kd.S_lt HO_433000.out)) (Kd.R_lt HO_433001.out)) (Kd.S_lt HO_446000.out)) (Kd.R_lt HO_446001.out)) (Kd.S_lt HO_463000.out)) (Kd.R_lt HO_463001.out)) (below_size HB.out))
        have n14_:=Aside0.mk (Kd.R_lower (Kd.R_new' (Kd.R_new' (Kd.R_new' (Kd.R_new' ho1 (Kd.R_lt HO_11.out)) (Kd.R_lt HO_433001.out)) (Kd.R_lt HO_446001.out)) (Kd.R_lt HO_463001.out)) (below_size HB.out))
        have n15_:=Aside0.mk (Kd.R_lower (Kd.R_new' (Kd.R_new' (Kd.R_new' (Kd.R_new' (Kd.R_new' (Kd.R_new' ho2 (Kd.R_lt HO_433002.out)) (Kd.R_lt HO_433003.out)) (Kd.R_lt HO_446002.out)) (Kd.R_lt HO_446003.out)) (Kd.R_lt HO_463002.out)) (Kd.R_lt HO_463003.out)) (below_size HB.out))
        have n16_:=Aside0.mk (Kd.R_lower (Kd.R_new' (Kd.R_new' (Kd.R_new' (Kd.R_new' (Kd.R_new' (Kd.R_new' ho3 (Kd.R_lt HO_433002.out)) (Kd.R_lt HO_433003.out)) (Kd.R_lt HO_446002.out)) (Kd.R_lt HO_446003.out)) (Kd.R_lt HO_463002.out)) (Kd.R_lt HO_463003.out)) (below_size HB.out))
        have n17_:=Aside0.mk (blk_below BK402.out hb)
        have n18_:=Aside0.mk (blk_below BK432.out hb)
        have n19_:=Aside0.mk (blk_below BK445.out hb)
        have n20_:=Aside0.mk (blk_below BK462.out hb)
        have n21_:=Aside0.mk (below_step HB.out hb)
        clear HO_11
        clear HO_433000
        clear HO_433001
        clear HO_433002
        clear HO_433003
        clear HO_446000
        clear HO_446001
        clear HO_446002
        clear HO_446003
        clear HO_463000
        clear HO_463001
        clear HO_463002
        clear HO_463003
        clear BK402
        clear BK432
        clear BK445
        clear BK462
        clear HB
        have HO_11:=n0_
        have HO_433000:=n1_
        have HO_433001:=n2_
        have HO_433002:=n3_
        have HO_433003:=n4_
        have HO_446000:=n5_
        have HO_446001:=n6_
        have HO_446002:=n7_
        have HO_446003:=n8_
        have HO_463000:=n9_
        have HO_463001:=n10_
        have HO_463002:=n11_
        have HO_463003:=n12_
        have HO466:=n13_
        have HO469:=n14_
        have HO472:=n15_
        have HO475:=n16_
        have BK402:=n17_
        have BK432:=n18_
        have BK445:=n19_
        have BK462:=n20_
        have HB:=n21_
        clear n0_ n1_ n2_ n3_ n4_ n5_ n6_ n7_ n8_ n9_ n10_ n11_ n12_ n13_ n14_ n15_ n16_ n17_ n18_ n19_ n20_ n21_
        (try clear hb)
        (try clear hb2)
        (try clear hk)
        (try clear hi)
        (try clear ho0)
        (try clear ho1)
        (try clear ho2)
        (try clear ho3)
        obtain ⟨Ao90,co90,eo90⟩:=Kd.S_slice HO466.out
        (first|subst eo90|(injection eo90 with f1_ f2_ f3_;have f4_:=f1_.symm;have f5_:=f3_.symm;clear f1_ f2_ f3_;subst f4_;subst f5_))
        obtain ⟨Ao91,co91,eo91⟩:=Kd.R_slice HO469.out
        (first|subst eo91|(injection eo91 with f1_ f2_ f3_;have f4_:=f1_.symm;have f5_:=f3_.symm;clear f1_ f2_ f3_;subst f4_;subst f5_))
        obtain ⟨Ao92,co92,eo92⟩:=Kd.R_slice HO472.out
        (first|subst eo92|(injection eo92 with f1_ f2_ f3_;have f4_:=f1_.symm;have f5_:=f3_.symm;clear f1_ f2_ f3_;subst f4_;subst f5_))
        obtain ⟨Ao93,co93,eo93⟩:=Kd.R_slice HO475.out
        (first|subst eo93|(injection eo93 with f1_ f2_ f3_;have f4_:=f1_.symm;have f5_:=f3_.symm;clear f1_ f2_ f3_;subst f4_;subst f5_))
        refine hK.out _ _ ⟨(blk_cell BK445.out 0).trans rfl,(blk_cell BK445.out 1).trans rfl,(blk_cell BK445.out 2).trans rfl,(blk_cell BK445.out 3).trans rfl,(blk_cell BK402.out 0).trans rfl,(blk_cell BK402.out 1).trans rfl,(blk_cell BK402.out 2).trans rfl,(blk_cell BK402.out 3).trans rfl⟩ (fun hHeld=>?_)
        clear hK K
        refine norm_ (a':=?_) ?_ ?_
        rotate_left
        ·show Act.put _ (some 58) _ = _
         simp only [Act.put,List.setIfInBounds_toArray,List.set_cons_zero,List.set_cons_succ,i64_w,i32_w]
         rfl
        refine one_ (i:=3) (N:=some 59) #[true,true,true,true,false] rfl rfl (by kernel_rfl) (by decide) (fun K hK=>?_)
        refine goes_ Try.func14 (by kernel_rfl) rfl #[.agg #[.slice Ao40 t433.length co40,.slice Ao44 t436.length co44,.slice Ao45 t439.length co45,.slice Ao46 t442.length co46],.agg #[.slice Ao90 t464.length co90,.slice Ao91 t467.length co91,.slice Ao92 t470.length co92,.slice Ao93 t473.length co93]] (by rfl) rfl rfl (by (try simp only [List.map_toArray,List.map_cons,List.map_nil]);first|done|rfl|(simp only [List.length_drop,List.length_take];rfl)) ?_
        with_reducible refine (laws_eqSpace.calls kj16 _ _ t433 _ _ t436 _ _ t439 _ _ t442 _ _ t464 _ _ t467 _ _ t470 _ _ t473 true _ ?side1 ?side2 ?side3 ?side4 ?side5 ?side6 ?side7 ?side8 ?side9 ?side10 ?side11 ?side12 ?side13 ?side14 ?side15 ?side16 A80.out).mono ?_
        (case side1=>exact (Kd.S_reads' HO_446000.out).2.2)
        (case side2=>exact (Kd.S_reads' HO_446000.out).2.1)
        (case side3=>exact (Kd.R_reads' HO_446001.out).2.2)
        (case side4=>exact (Kd.R_reads' HO_446001.out).2.1)
        (case side5=>exact (Kd.R_reads' HO_446002.out).2.2)
        (case side6=>exact (Kd.R_reads' HO_446002.out).2.1)
        (case side7=>exact (Kd.R_reads' HO_446003.out).2.2)
        (case side8=>exact (Kd.R_reads' HO_446003.out).2.1)
        (case side9=>exact (Kd.S_reads' HO466.out).2.2)
        (case side10=>exact (Kd.S_reads' HO466.out).2.1)
        (case side11=>exact (Kd.R_reads' HO469.out).2.2)
        (case side12=>exact (Kd.R_reads' HO469.out).2.1)
        (case side13=>exact (Kd.R_reads' HO472.out).2.2)
        (case side14=>exact (Kd.R_reads' HO472.out).2.1)
        (case side15=>exact (Kd.R_reads' HO475.out).2.2)
        (case side16=>exact (Kd.R_reads' HO475.out).2.1)
        rintro e w94 ⟨rfl,hb⟩
        refine ⟨_,rfl,?_⟩
        have n0_:=Aside0.mk (Kd.R_below HO_11.out hb)
        have n1_:=Aside0.mk (Kd.S_below HO_433000.out hb)
        have n2_:=Aside0.mk (Kd.R_below HO_433001.out hb)
        have n3_:=Aside0.mk (Kd.R_below HO_433002.out hb)
        have n4_:=Aside0.mk (Kd.R_below HO_433003.out hb)
        have n5_:=Aside0.mk (Kd.S_below HO_446000.out hb)
        have n6_:=Aside0.mk (Kd.R_below HO_446001.out hb)
        have n7_:=Aside0.mk (Kd.R_below HO_446002.out hb)
        have n8_:=Aside0.mk (Kd.R_below HO_446003.out hb)
        have n9_:=Aside0.mk (Kd.S_below HO_463000.out hb)
        have n10_:=Aside0.mk (Kd.R_below HO_463001.out hb)
        have n11_:=Aside0.mk (Kd.R_below HO_463002.out hb)
        have n12_:=Aside0.mk (Kd.R_below HO_463003.out hb)
        have n13_:=Aside0.mk (Kd.S_below HO466.out hb)
        have n14_:=Aside0.mk (Kd.R_below HO469.out hb)
        have n15_:=Aside0.mk (Kd.R_below HO472.out hb)
        have n16_:=Aside0.mk (Kd.R_below HO475.out hb)
        have n17_:=Aside0.mk (blk_below BK402.out hb)
        have n18_:=Aside0.mk (blk_below BK432.out hb)
        have n19_:=Aside0.mk (blk_below BK445.out hb)
        have n20_:=Aside0.mk (blk_below BK462.out hb)
        have n21_:=Aside0.mk (below_step HB.out hb)
        clear HO_11
        clear HO_433000
        clear HO_433001
        clear HO_433002
        clear HO_433003
        clear HO_446000
        clear HO_446001
        clear HO_446002
        clear HO_446003
        clear HO_463000
        clear HO_463001
        clear HO_463002
        clear HO_463003
        clear HO466
        clear HO469
        clear HO472
        clear HO475
        clear BK402
        clear BK432
        clear BK445
        clear BK462
        clear HB
        have HO_11:=n0_
        have HO_433000:=n1_
        have HO_433001:=n2_
        have HO_433002:=n3_
        have HO_433003:=n4_
        have HO_446000:=n5_
        have HO_446001:=n6_
        have HO_446002:=n7_
        have HO_446003:=n8_
        have HO_463000:=n9_
        have HO_463001:=n10_
        have HO_463002:=n11_
        have HO_463003:=n12_
        have HO466:=n13_
        have HO469:=n14_
        have HO472:=n15_
        have HO475:=n16_
        have BK402:=n17_
        have BK432:=n18_
        have BK445:=n19_
        have BK462:=n20_
        have HB:=n21_
        clear n0_ n1_ n2_ n3_ n4_ n5_ n6_ n7_ n8_ n9_ n10_ n11_ n12_ n13_ n14_ n15_ n16_ n17_ n18_ n19_ n20_ n21_
        (try clear hb)
        (try clear hb2)
        (try clear hk)
        (try clear hi)
        refine hK.out _ _ ⟨(blk_cell BK445.out 0).trans rfl,(blk_cell BK445.out 1).trans rfl,(blk_cell BK445.out 2).trans rfl,(blk_cell BK445.out 3).trans rfl,(blk_cell BK402.out 0).trans rfl,(blk_cell BK402.out 1).trans rfl,(blk_cell BK402.out 2).trans rfl,(blk_cell BK402.out 3).trans rfl⟩ (fun hHeld=>?_)
        clear hK K
        refine norm_ (a':=?_) ?_ ?_
        rotate_left
        ·show Act.put _ (some 59) _ = _
         simp only [Act.put,List.setIfInBounds_toArray,List.set_cons_zero,List.set_cons_succ,i64_w,i32_w]
         rfl
        refine pure_ (i:=4) (N:=some 60) (v:=?_) (a':=?_) #[true,true,true,true,true] rfl rfl (by kernel_rfl) (fun _ _ _ h=>h) (Or.inl ⟨by rfl,?_⟩) ?_ ?_
        rotate_left
        ·intro w'
         go_simp
         with_reducible rfl
        rotate_left
        ·simp only [Act.put,List.setIfInBounds_toArray,List.set_cons_zero,List.set_cons_succ,i64_w,i32_w]
         rfl
        refine done_ (by kernel_rfl) ?_
        go_upto_region 20 with (first|((with_reducible refine gate_callee (f:=31) rfl ?_);refine goesL_ (some 63) rfl rfl Try.func31 (by kernel_rfl) rfl #[.slice A2 l2.length c2] rfl (by (try simp only [List.map_toArray,List.map_cons,List.map_nil]);first|done|rfl) ?_;(with_reducible refine (laws_toByteS.calls kj16 _ _ l2 t477 _ ?side1 ?side2 A82.out).mono ?_);(case side1=>exact (Kd.C_below HR2.out HB.out));(case side2=>exact HC2.out);rintro e w95 ⟨v478,rfl,ho0,hb⟩;refine ⟨_,rfl,?_⟩;have HO479:=Aside0.mk (Kd.R_lower (Kd.R_new' (Kd.R_new' (Kd.R_new' (Kd.R_new' (Kd.R_new' ho0 (Kd.R_lt HO_11.out)) (Kd.R_lt HO_433001.out)) (Kd.R_lt HO_446001.out)) (Kd.R_lt HO_463001.out)) (Kd.R_lt HO469.out)) (below_size HB.out));replace HO_11:=Aside0.mk (Kd.R_elder' HO_11.out (Kd.R_base ho0) hb);replace HO_433000:=Aside0.mk (Kd.S_elder' HO_433000.out (Kd.R_base ho0) hb);replace HO_433001:=Aside0.mk (Kd.R_elder' HO_433001.out (Kd.R_base ho0) hb);replace HO_433002:=Aside0.mk (Kd.R_below HO_433002.out hb);replace HO_433003:=Aside0.mk (Kd.R_below HO_433003.out hb);replace HO_446000:=Aside0.mk (Kd.S_elder' HO_446000.out (Kd.R_base ho0) hb);replace HO_446001:=Aside0.mk (Kd.R_elder' HO_446001.out (Kd.R_base ho0) hb);replace HO_446002:=Aside0.mk (Kd.R_below HO_446002.out hb);replace HO_446003:=Aside0.mk (Kd.R_below HO_446003.out hb);replace HO_463000:=Aside0.mk (Kd.S_elder' HO_463000.out (Kd.R_base ho0) hb);replace HO_463001:=Aside0.mk (Kd.R_elder' HO_463001.out (Kd.R_base ho0) hb);replace HO_463002:=Aside0.mk (Kd.R_below HO_463002.out hb);replace HO_463003:=Aside0.mk (Kd.R_below HO_463003.out hb);replace BK402:=Aside0.mk (blk_below BK402.out hb);replace BK432:=Aside0.mk (blk_below BK432.out hb);replace BK445:=Aside0.mk (blk_below BK445.out hb);replace BK462:=Aside0.mk (blk_below BK462.out hb);replace HB:=Aside0.mk (below_step HB.out hb);clear HO466 HO469 HO472 HO475;clear hb ho0;obtain ⟨Ao96,co96,eo96⟩:=Kd.R_slice HO479.out;subst eo96)|((with_reducible refine gate_callee (f:=33) rfl ?_);refine goesL_ (some 64) rfl rfl Try.func33 (by kernel_rfl) rfl #[.slice Ao49 t446.length co49,.slice Ao96 t477.length co96] rfl (by (try simp only [List.map_toArray,List.map_cons,List.map_nil]);first|done|rfl) ?_;(with_reducible refine (laws_eqByteS.calls kj16 _ _ t446 _ _ t477 true _ ?side1 ?side2 ?side3 ?side4 A83.out).mono ?_);(case side1=>exact (Kd.R_reads' HO_11.out).2.2);(case side2=>exact (Kd.R_reads' HO_11.out).2.1);(case side3=>exact (Kd.R_reads' HO479.out).2.2);(case side4=>exact (Kd.R_reads' HO479.out).2.1);rintro e w' ⟨rfl,⟨nd,rfl⟩⟩;refine ⟨_,rfl,?_⟩;have hnb97:=NB445_402.out;have hnc97:=NB402_445.out;have hnb98:=NB445_432.out;have hnc98:=NB432_445.out;have hnb99:=NB445_462.out;have hnc99:=NB462_445.out;have hcz100_0 : w95.cell? ⟨gb445,0,none⟩ = some (.slice Ao40 t433.length co40):=(blk_cell BK445.out 0).trans rfl;have hcz100_1 : w95.cell? ⟨gb445,1,none⟩ = some (.slice Ao44 t436.length co44):=(blk_cell BK445.out 1).trans rfl;have hcz100_2 : w95.cell? ⟨gb445,2,none⟩ = some (.slice Ao45 t439.length co45):=(blk_cell BK445.out 2).trans rfl;have hcz100_3 : w95.cell? ⟨gb445,3,none⟩ = some (.slice Ao46 t442.length co46):=(blk_cell BK445.out 3).trans rfl;have hfz100_0:=blk_frozen BK445.out 0;have hfz100_1:=blk_frozen BK445.out 1;have hfz100_2:=blk_frozen BK445.out 2;have hfz100_3:=blk_frozen BK445.out 3;have n_:=Aside0.mk (Kd.S_mono (ok':=fun k_=>(some k_ ≠ (.slice Ao49 t446.length co49 : Value).ownBlock∧(some k_ ≠ (.slice Ao31 t419.length co31 : Value).ownBlock∧(some k_ ≠ (.slice Ao34 t422.length co34 : Value).ownBlock∧(some k_ ≠ (.slice Ao44 t436.length co44 : Value).ownBlock∧(some k_ ≠ (.slice Ao52 t449.length co52 : Value).ownBlock∧(some k_ ≠ (.slice Ao57 t452.length co57 : Value).ownBlock∧(w30.heap.size ≤ k_∧(k_ < w47.heap.size∧(k_ < w88.heap.size∧some k_ ≠ (.slice Ao96 t477.length co96 : Value).ownBlock)))))))))) HO_446000.out (fun k_ hk=>⟨hk.1.1.1.1.1,⟨hk.1.1.1.1.2.1,⟨hk.1.1.1.1.2.2.1,⟨hk.1.1.1.1.2.2.2.1,⟨hk.1.1.1.1.2.2.2.2.1,⟨hk.1.1.1.1.2.2.2.2.2.1,⟨hk.1.1.1.1.2.2.2.2.2.2.1,⟨hk.1.1.1.1.2.2.2.2.2.2.2,⟨hk.1.2,hk.2⟩⟩⟩⟩⟩⟩⟩⟩⟩));clear HO_446000;have HO_446000:=n_;clear n_)|((with_reducible refine gate_callee (f:=20) rfl ?_);refine goesL_ (some 68) rfl rfl Try.func20 (by kernel_rfl) rfl #[.agg #[.slice Ao40 t433.length co40,.slice Ao44 t436.length co44,.slice Ao45 t439.length co45,.slice Ao46 t442.length co46],.int .i64 1] rfl (by (try simp only [List.map_toArray,List.map_cons,List.map_nil]);first|done|rfl) ?_;(with_reducible refine (laws_markSpace.calls kj16 (SB_ (Kd.slice 5 (Kd.int .u8)) 23 w95 w.heap.size (fun k_=>(some k_ ≠ (.slice Ao49 t446.length co49 : Value).ownBlock∧(some k_ ≠ (.slice Ao31 t419.length co31 : Value).ownBlock∧(some k_ ≠ (.slice Ao34 t422.length co34 : Value).ownBlock∧(some k_ ≠ (.slice Ao44 t436.length co44 : Value).ownBlock∧(some k_ ≠ (.slice Ao52 t449.length co52 : Value).ownBlock∧(some k_ ≠ (.slice Ao57 t452.length co57 : Value).ownBlock∧(w30.heap.size ≤ k_∧(k_ < w47.heap.size∧(k_ < w88.heap.size∧some k_ ≠ (.slice Ao96 t477.length co96 : Value).ownBlock))))))))))) (.slice Ao40 t433.length co40) t433 (fun k_=>some k_ = (.slice Ao44 t436.length co44 : Value).ownBlock) (.slice Ao44 t436.length co44) t436 (fun k_=>some k_ = (.slice Ao45 t439.length co45 : Value).ownBlock) (.slice Ao45 t439.length co45) t439 (fun k_=>some k_ = (.slice Ao46 t442.length co46 : Value).ownBlock) (.slice Ao46 t442.length co46) t442 1 t481 t482 t483 t484 t485 w _ ?side1 ?side2 ?side3 ?side4 ?side5 ?side6 ?side7 ?side8 A85.out).mono ?_);(case side1=>repeat (first|(with_reducible first|exact HB.out|apply below_alloc|apply pw_below_drewN|apply below_drew1|refine below_set ?_ GE402.out|refine below_set ?_ GE432.out|refine below_set ?_ GE445.out|refine below_set ?_ GE462.out)|exact HB.out));(case side2=>exact SB_own HO_446000.out);(case side3=>exact fun k_ h_ e_=>(h_.1.2.2.2.1) e_);(case side4=>exact Kd.R_tight rfl HO_446001.out);(case side5=>exact Kd.R_tight rfl HO_446002.out);(case side6=>exact fun k_ e_=>(HO_446002.out.1 k_ e_.symm).1.1.2.2.1);(case side7=>exact Kd.R_tight rfl HO_446003.out);(case side8=>exact fun k_ e_=>(HO_446003.out.1 k_ e_.symm).1.1.2.2.1);rintro e w101 ⟨rfl,hy0,hy1,hy2,hy3,hb,hkp⟩;refine ⟨_,rfl,?_⟩;replace HO_11:=Aside0.mk (Kd.R_mono (ok':=fun k_=>some k_ ≠ (.slice Ao34 t422.length co34 : Value).ownBlock∧some k_ ≠ (.slice Ao57 t452.length co57 : Value).ownBlock∧some k_ ≠ (.slice Ao96 t477.length co96 : Value).ownBlock) (Kd.R_keptB ((Kd.R_apart' (Kd.R_apart' (R_apartSBo (d':=(Kd.slice 5 (Kd.int .u8))) (e':=23) (base':=w.heap.size) (ok':=(fun k_=>(some k_ ≠ (.slice Ao49 t446.length co49 : Value).ownBlock∧(some k_ ≠ (.slice Ao31 t419.length co31 : Value).ownBlock∧(some k_ ≠ (.slice Ao34 t422.length co34 : Value).ownBlock∧(some k_ ≠ (.slice Ao44 t436.length co44 : Value).ownBlock∧(some k_ ≠ (.slice Ao52 t449.length co52 : Value).ownBlock∧(some k_ ≠ (.slice Ao57 t452.length co57 : Value).ownBlock∧(w30.heap.size ≤ k_∧(k_ < w47.heap.size∧(k_ < w88.heap.size∧some k_ ≠ (.slice Ao96 t477.length co96 : Value).ownBlock))))))))))) rfl HO_11.out (fun k_ hk=>hk.1)) (Kd.R_typed HO_446002.out) (by decide)) (Kd.R_typed HO_446003.out) (by decide))) hkp (fun k_ hk_ hs_=>Or.elim hs_ (fun e_=>(hk_.1.1.2) e_) (fun e_=>Or.elim e_ (fun e_=>(hk_.1.1.1.1.1.2.1) e_) (fun e_=>Or.elim e_ (fun e_=>(hk_.1.2) e_) (fun e_=>(hk_.2) e_))))) (fun k_ hk_=>⟨hk_.1.1.1.1.1.1.1,hk_.1.1.1.1.1.1.2.2,hk_.1.1.1.1.2⟩));replace HO_433000:=Aside0.mk (Kd.S_mono (ok':=fun k_=>some k_ ≠ (.slice Ao49 t446.length co49 : Value).ownBlock∧some k_ ≠ (.slice Ao34 t422.length co34 : Value).ownBlock∧some k_ ≠ (.slice Ao52 t449.length co52 : Value).ownBlock∧some k_ ≠ (.slice Ao57 t452.length co57 : Value).ownBlock∧some k_ ≠ (.slice Ao96 t477.length co96 : Value).ownBlock∧w23.heap.size ≤ k_∧k_ < w30.heap.size∧k_ < w47.heap.size∧k_ < w88.heap.size) (Kd.S_keptB ((Kd.S_apart' (Kd.S_apart' (S_apartSBn (d':=(Kd.slice 5 (Kd.int .u8))) (e':=23) (base':=w.heap.size) (ok':=(fun k_=>(some k_ ≠ (.slice Ao49 t446.length co49 : Value).ownBlock∧(some k_ ≠ (.slice Ao31 t419.length co31 : Value).ownBlock∧(some k_ ≠ (.slice Ao34 t422.length co34 : Value).ownBlock∧(some k_ ≠ (.slice Ao44 t436.length co44 : Value).ownBlock∧(some k_ ≠ (.slice Ao52 t449.length co52 : Value).ownBlock∧(some k_ ≠ (.slice Ao57 t452.length co57 : Value).ownBlock∧(w30.heap.size ≤ k_∧(k_ < w47.heap.size∧(k_ < w88.heap.size∧some k_ ≠ (.slice Ao96 t477.length co96 : Value).ownBlock))))))))))) HO_433000.out (fun k_ hk h2_=>absurd (hk.1.1.1.1.2.2.2.2.2.2.2.1) (Nat.not_lt.2 (h2_.2.2.2.2.2.2.1)))) (Kd.R_typed HO_446002.out) (by decide)) (Kd.R_typed HO_446003.out) (by decide))) hkp (fun k_ hk_ hs_=>Or.elim hs_ (fun e_=>(hk_.1.1.2) e_) (fun e_=>Or.elim e_ (fun e_=>(hk_.1.1.1.1.1.1.1.2.2.2.1) e_) (fun e_=>Or.elim e_ (fun e_=>(hk_.1.2) e_) (fun e_=>(hk_.2) e_))))) (fun k_ hk_=>⟨hk_.1.1.1.1.1.1.1.1.1,hk_.1.1.1.1.1.1.1.1.2.1,hk_.1.1.1.1.1.1.1.1.2.2.2.2.1,hk_.1.1.1.1.1.1.1.1.2.2.2.2.2.1,hk_.1.1.1.1.2,hk_.1.1.1.1.1.1.1.1.2.2.2.2.2.2.1,hk_.1.1.1.1.1.1.1.1.2.2.2.2.2.2.2.1,hk_.1.1.1.1.1.1.1.1.2.2.2.2.2.2.2.2,hk_.1.1.1.1.1.2⟩));replace HO_433001:=Aside0.mk (Kd.R_mono (ok':=fun k_=>some k_ ≠ (.slice Ao49 t446.length co49 : Value).ownBlock∧some k_ ≠ (.slice Ao57 t452.length co57 : Value).ownBlock∧some k_ ≠ (.slice Ao96 t477.length co96 : Value).ownBlock) (Kd.R_keptB ((Kd.R_apart' (Kd.R_apart' (R_apartSBo (d':=(Kd.slice 5 (Kd.int .u8))) (e':=23) (base':=w.heap.size) (ok':=(fun k_=>(some k_ ≠ (.slice Ao49 t446.length co49 : Value).ownBlock∧(some k_ ≠ (.slice Ao31 t419.length co31 : Value).ownBlock∧(some k_ ≠ (.slice Ao34 t422.length co34 : Value).ownBlock∧(some k_ ≠ (.slice Ao44 t436.length co44 : Value).ownBlock∧(some k_ ≠ (.slice Ao52 t449.length co52 : Value).ownBlock∧(some k_ ≠ (.slice Ao57 t452.length co57 : Value).ownBlock∧(w30.heap.size ≤ k_∧(k_ < w47.heap.size∧(k_ < w88.heap.size∧some k_ ≠ (.slice Ao96 t477.length co96 : Value).ownBlock))))))))))) rfl HO_433001.out (fun k_ hk=>hk.2.2.1)) (Kd.R_typed HO_446002.out) (by decide)) (Kd.R_typed HO_446003.out) (by decide))) hkp (fun k_ hk_ hs_=>Or.elim hs_ (fun e_=>(hk_.1.1.2) e_) (fun e_=>Or.elim e_ (fun e_=>(hk_.1.1.1.1.1.2.1) e_) (fun e_=>Or.elim e_ (fun e_=>(hk_.1.2) e_) (fun e_=>(hk_.2) e_))))) (fun k_ hk_=>⟨hk_.1.1.1.1.1.1.1,hk_.1.1.1.1.1.1.2.2,hk_.1.1.1.1.2⟩));replace HO_433002:=Aside0.mk (Kd.R_mono (ok':=fun k_=>some k_ ≠ (.slice Ao36 t428.length co36 : Value).ownBlock∧some k_ ≠ (.slice Ao58 t455.length co58 : Value).ownBlock∧some k_ ≠ (.slice Ao59 t458.length co59 : Value).ownBlock) (Kd.R_keptB ((Kd.R_apart' (R_apartSB (d':=(Kd.slice 5 (Kd.int .u8))) (e':=23) (base':=w.heap.size) (ok':=(fun k_=>(some k_ ≠ (.slice Ao49 t446.length co49 : Value).ownBlock∧(some k_ ≠ (.slice Ao31 t419.length co31 : Value).ownBlock∧(some k_ ≠ (.slice Ao34 t422.length co34 : Value).ownBlock∧(some k_ ≠ (.slice Ao44 t436.length co44 : Value).ownBlock∧(some k_ ≠ (.slice Ao52 t449.length co52 : Value).ownBlock∧(some k_ ≠ (.slice Ao57 t452.length co57 : Value).ownBlock∧(w30.heap.size ≤ k_∧(k_ < w47.heap.size∧(k_ < w88.heap.size∧some k_ ≠ (.slice Ao96 t477.length co96 : Value).ownBlock))))))))))) HO_433002.out (by decide)) (Kd.R_typed HO_446001.out) (by decide))) hkp (fun k_ hk_ hs_=>Or.elim hs_ (fun e_=>(hk_.1.2) e_) (fun e_=>Or.elim e_ (fun e_=>(hk_.2) e_) (fun e_=>Or.elim e_ (fun e_=>(hk_.1.1.1.1.2.1) e_) (fun e_=>(hk_.1.1.1.1.2.2.1) e_))))) (fun k_ hk_=>⟨hk_.1.1.1.1.1.1,hk_.1.1.1.1.1.2.2.2.1,hk_.1.1.1.1.1.2.2.2.2⟩));replace HO_433003:=Aside0.mk (Kd.R_mono (ok':=fun k_=>some k_ ≠ (.slice Ao35 t425.length co35 : Value).ownBlock∧some k_ ≠ (.slice Ao58 t455.length co58 : Value).ownBlock∧some k_ ≠ (.slice Ao59 t458.length co59 : Value).ownBlock) (Kd.R_keptB ((Kd.R_apart' (R_apartSB (d':=(Kd.slice 5 (Kd.int .u8))) (e':=23) (base':=w.heap.size) (ok':=(fun k_=>(some k_ ≠ (.slice Ao49 t446.length co49 : Value).ownBlock∧(some k_ ≠ (.slice Ao31 t419.length co31 : Value).ownBlock∧(some k_ ≠ (.slice Ao34 t422.length co34 : Value).ownBlock∧(some k_ ≠ (.slice Ao44 t436.length co44 : Value).ownBlock∧(some k_ ≠ (.slice Ao52 t449.length co52 : Value).ownBlock∧(some k_ ≠ (.slice Ao57 t452.length co57 : Value).ownBlock∧(w30.heap.size ≤ k_∧(k_ < w47.heap.size∧(k_ < w88.heap.size∧some k_ ≠ (.slice Ao96 t477.length co96 : Value).ownBlock))))))))))) HO_433003.out (by decide)) (Kd.R_typed HO_446001.out) (by decide))) hkp (fun k_ hk_ hs_=>Or.elim hs_ (fun e_=>(hk_.1.2) e_) (fun e_=>Or.elim e_ (fun e_=>(hk_.2) e_) (fun e_=>Or.elim e_ (fun e_=>(hk_.1.1.1.1.2.1) e_) (fun e_=>(hk_.1.1.1.1.2.2.1) e_))))) (fun k_ hk_=>⟨hk_.1.1.1.1.1.1,hk_.1.1.1.1.1.2.2.2.1,hk_.1.1.1.1.1.2.2.2.2⟩));replace HO_463000:=Aside0.mk (Kd.S_mono (ok':=fun k_=>some k_ ≠ (.slice Ao49 t446.length co49 : Value).ownBlock∧some k_ ≠ (.slice Ao31 t419.length co31 : Value).ownBlock∧some k_ ≠ (.slice Ao34 t422.length co34 : Value).ownBlock∧some k_ ≠ (.slice Ao57 t452.length co57 : Value).ownBlock∧some k_ ≠ (.slice Ao96 t477.length co96 : Value).ownBlock∧w47.heap.size ≤ k_∧k_ < w88.heap.size) (Kd.S_keptB ((Kd.S_apart' (Kd.S_apart' (S_apartSBn (d':=(Kd.slice 5 (Kd.int .u8))) (e':=23) (base':=w.heap.size) (ok':=(fun k_=>(some k_ ≠ (.slice Ao49 t446.length co49 : Value).ownBlock∧(some k_ ≠ (.slice Ao31 t419.length co31 : Value).ownBlock∧(some k_ ≠ (.slice Ao34 t422.length co34 : Value).ownBlock∧(some k_ ≠ (.slice Ao44 t436.length co44 : Value).ownBlock∧(some k_ ≠ (.slice Ao52 t449.length co52 : Value).ownBlock∧(some k_ ≠ (.slice Ao57 t452.length co57 : Value).ownBlock∧(w30.heap.size ≤ k_∧(k_ < w47.heap.size∧(k_ < w88.heap.size∧some k_ ≠ (.slice Ao96 t477.length co96 : Value).ownBlock))))))))))) HO_463000.out (fun k_ hk h2_=>absurd (h2_.2.2.2.2.2.2.2.1) (Nat.not_lt.2 (hk.1.1.1.1.2.2.2.2.2.2)))) (Kd.R_typed HO_446002.out) (by decide)) (Kd.R_typed HO_446003.out) (by decide))) hkp (fun k_ hk_ hs_=>Or.elim hs_ (fun e_=>(hk_.1.1.2) e_) (fun e_=>Or.elim e_ (fun e_=>(hk_.1.1.1.1.1.1.1.2.2.2.2.1) e_) (fun e_=>Or.elim e_ (fun e_=>(hk_.1.2) e_) (fun e_=>(hk_.2) e_))))) (fun k_ hk_=>⟨hk_.1.1.1.1.1.1.1.1.1,hk_.1.1.1.1.1.1.1.1.2.1,hk_.1.1.1.1.1.1.1.1.2.2.1,hk_.1.1.1.1.1.1.1.1.2.2.2.2.2.1,hk_.1.1.1.1.2,hk_.1.1.1.1.1.1.1.1.2.2.2.2.2.2,hk_.1.1.1.1.1.2⟩));replace HO_463001:=Aside0.mk (Kd.R_mono (ok':=fun k_=>some k_ ≠ (.slice Ao49 t446.length co49 : Value).ownBlock∧some k_ ≠ (.slice Ao34 t422.length co34 : Value).ownBlock∧some k_ ≠ (.slice Ao96 t477.length co96 : Value).ownBlock) (Kd.R_keptB ((Kd.R_apart' (Kd.R_apart' (R_apartSBo (d':=(Kd.slice 5 (Kd.int .u8))) (e':=23) (base':=w.heap.size) (ok':=(fun k_=>(some k_ ≠ (.slice Ao49 t446.length co49 : Value).ownBlock∧(some k_ ≠ (.slice Ao31 t419.length co31 : Value).ownBlock∧(some k_ ≠ (.slice Ao34 t422.length co34 : Value).ownBlock∧(some k_ ≠ (.slice Ao44 t436.length co44 : Value).ownBlock∧(some k_ ≠ (.slice Ao52 t449.length co52 : Value).ownBlock∧(some k_ ≠ (.slice Ao57 t452.length co57 : Value).ownBlock∧(w30.heap.size ≤ k_∧(k_ < w47.heap.size∧(k_ < w88.heap.size∧some k_ ≠ (.slice Ao96 t477.length co96 : Value).ownBlock))))))))))) rfl HO_463001.out (fun k_ hk=>hk.2.2.2.2.2.1)) (Kd.R_typed HO_446002.out) (by decide)) (Kd.R_typed HO_446003.out) (by decide))) hkp (fun k_ hk_ hs_=>Or.elim hs_ (fun e_=>(hk_.1.1.2) e_) (fun e_=>Or.elim e_ (fun e_=>(hk_.1.1.1.1.1.2.2) e_) (fun e_=>Or.elim e_ (fun e_=>(hk_.1.2) e_) (fun e_=>(hk_.2) e_))))) (fun k_ hk_=>⟨hk_.1.1.1.1.1.1.1,hk_.1.1.1.1.1.1.2.1,hk_.1.1.1.1.2⟩));replace HO_463002:=Aside0.mk (Kd.R_mono (ok':=fun k_=>some k_ ≠ (.slice Ao35 t425.length co35 : Value).ownBlock∧some k_ ≠ (.slice Ao36 t428.length co36 : Value).ownBlock∧some k_ ≠ (.slice Ao59 t458.length co59 : Value).ownBlock) (Kd.R_keptB ((Kd.R_apart' (R_apartSB (d':=(Kd.slice 5 (Kd.int .u8))) (e':=23) (base':=w.heap.size) (ok':=(fun k_=>(some k_ ≠ (.slice Ao49 t446.length co49 : Value).ownBlock∧(some k_ ≠ (.slice Ao31 t419.length co31 : Value).ownBlock∧(some k_ ≠ (.slice Ao34 t422.length co34 : Value).ownBlock∧(some k_ ≠ (.slice Ao44 t436.length co44 : Value).ownBlock∧(some k_ ≠ (.slice Ao52 t449.length co52 : Value).ownBlock∧(some k_ ≠ (.slice Ao57 t452.length co57 : Value).ownBlock∧(w30.heap.size ≤ k_∧(k_ < w47.heap.size∧(k_ < w88.heap.size∧some k_ ≠ (.slice Ao96 t477.length co96 : Value).ownBlock))))))))))) HO_463002.out (by decide)) (Kd.R_typed HO_446001.out) (by decide))) hkp (fun k_ hk_ hs_=>Or.elim hs_ (fun e_=>(hk_.1.2) e_) (fun e_=>Or.elim e_ (fun e_=>(hk_.2) e_) (fun e_=>Or.elim e_ (fun e_=>(hk_.1.1.1.1.2.2.1) e_) (fun e_=>(hk_.1.1.1.1.2.2.2.1) e_))))) (fun k_ hk_=>⟨hk_.1.1.1.1.1.1,hk_.1.1.1.1.1.2.1,hk_.1.1.1.1.1.2.2.2.2⟩));replace HO_463003:=Aside0.mk (Kd.R_mono (ok':=fun k_=>some k_ ≠ (.slice Ao35 t425.length co35 : Value).ownBlock∧some k_ ≠ (.slice Ao36 t428.length co36 : Value).ownBlock∧some k_ ≠ (.slice Ao58 t455.length co58 : Value).ownBlock) (Kd.R_keptB ((Kd.R_apart' (R_apartSB (d':=(Kd.slice 5 (Kd.int .u8))) (e':=23) (base':=w.heap.size) (ok':=(fun k_=>(some k_ ≠ (.slice Ao49 t446.length co49 : Value).ownBlock∧(some k_ ≠ (.slice Ao31 t419.length co31 : Value).ownBlock∧(some k_ ≠ (.slice Ao34 t422.length co34 : Value).ownBlock∧(some k_ ≠ (.slice Ao44 t436.length co44 : Value).ownBlock∧(some k_ ≠ (.slice Ao52 t449.length co52 : Value).ownBlock∧(some k_ ≠ (.slice Ao57 t452.length co57 : Value).ownBlock∧(w30.heap.size ≤ k_∧(k_ < w47.heap.size∧(k_ < w88.heap.size∧some k_ ≠ (.slice Ao96 t477.length co96 : Value).ownBlock))))))))))) HO_463003.out (by decide)) (Kd.R_typed HO_446001.out) (by decide))) hkp (fun k_ hk_ hs_=>Or.elim hs_ (fun e_=>(hk_.1.2) e_) (fun e_=>Or.elim e_ (fun e_=>(hk_.2) e_) (fun e_=>Or.elim e_ (fun e_=>(hk_.1.1.1.1.2.2.1) e_) (fun e_=>(hk_.1.1.1.1.2.2.2.1) e_))))) (fun k_ hk_=>⟨hk_.1.1.1.1.1.1,hk_.1.1.1.1.1.2.1,hk_.1.1.1.1.1.2.2.2.2⟩));replace BK402:=Aside0.mk (blk_kept (g:=gb402) (o:=.cells #[.slice A0_0 l0_0.length c0_0,.slice A0_1 l0_1.length c0_1,.slice A0_2 l0_2.length c0_2,.slice A0_3 l0_3.length c0_3] 26 (0,0)) BK402.out hkp (fun hs_=>Or.elim hs_ (fun e_=>(fun e_=>(blk_SB BK402.out (by decide)) e_) e_) (fun e_=>Or.elim e_ (fun e_=>(fun e_=>(Kd.R_ne HO_446001.out BK402.out (by decide)) e_) e_) (fun e_=>Or.elim e_ (fun e_=>(fun e_=>(Kd.R_ne HO_446002.out BK402.out (by decide)) e_) e_) (fun e_=>(fun e_=>(Kd.R_ne HO_446003.out BK402.out (by decide)) e_) e_)))));replace BK432:=Aside0.mk (blk_kept (g:=gb432) (o:=.cells #[.slice Ao31 t419.length co31,.slice Ao34 t422.length co34,.slice Ao35 t425.length co35,.slice Ao36 t428.length co36] 29 (0,0)) BK432.out hkp (fun hs_=>Or.elim hs_ (fun e_=>(fun e_=>(blk_SB BK432.out (by decide)) e_) e_) (fun e_=>Or.elim e_ (fun e_=>(fun e_=>(Kd.R_ne HO_446001.out BK432.out (by decide)) e_) e_) (fun e_=>Or.elim e_ (fun e_=>(fun e_=>(Kd.R_ne HO_446002.out BK432.out (by decide)) e_) e_) (fun e_=>(fun e_=>(Kd.R_ne HO_446003.out BK432.out (by decide)) e_) e_)))));replace BK445:=Aside0.mk (blk_kept (g:=gb445) (o:=.cells #[.slice Ao40 t433.length co40,.slice Ao44 t436.length co44,.slice Ao45 t439.length co45,.slice Ao46 t442.length co46] 29 (0,0)) BK445.out hkp (fun hs_=>Or.elim hs_ (fun e_=>(fun e_=>(blk_SB BK445.out (by decide)) e_) e_) (fun e_=>Or.elim e_ (fun e_=>(fun e_=>(Kd.R_ne HO_446001.out BK445.out (by decide)) e_) e_) (fun e_=>Or.elim e_ (fun e_=>(fun e_=>(Kd.R_ne HO_446002.out BK445.out (by decide)) e_) e_) (fun e_=>(fun e_=>(Kd.R_ne HO_446003.out BK445.out (by decide)) e_) e_)))));replace BK462:=Aside0.mk (blk_kept (g:=gb462) (o:=.cells #[.slice Ao52 t449.length co52,.slice Ao57 t452.length co57,.slice Ao58 t455.length co58,.slice Ao59 t458.length co59] 29 (0,0)) BK462.out hkp (fun hs_=>Or.elim hs_ (fun e_=>(fun e_=>(blk_SB BK462.out (by decide)) e_) e_) (fun e_=>Or.elim e_ (fun e_=>(fun e_=>(Kd.R_ne HO_446001.out BK462.out (by decide)) e_) e_) (fun e_=>Or.elim e_ (fun e_=>(fun e_=>(Kd.R_ne HO_446002.out BK462.out (by decide)) e_) e_) (fun e_=>(fun e_=>(Kd.R_ne HO_446003.out BK462.out (by decide)) e_) e_)))));replace HB:=Aside0.mk (hb);clear HO_446000 HO_446001 HO_446002 HO_446003 HO479;clear hb hkp hy0 hy1 hy2 hy3)|((with_reducible refine gate_callee (f:=34) rfl ?_);refine goesL_ (some 71) rfl rfl Try.func34 (by kernel_rfl) rfl #[.slice Ao49 t446.length co49,.int .i64 t481] rfl (by (try simp only [List.map_toArray,List.map_cons,List.map_nil]);first|done|rfl) ?_;(with_reducible refine (laws_markByteS.calls kj16 (fun k_=>some k_ = (.slice Ao49 t446.length co49 : Value).ownBlock) (.slice Ao49 t446.length co49) t446 t481 t486 t487 w _ ?side1 ?side2 A86.out).mono ?_);(case side1=>repeat (first|(with_reducible first|exact HB.out|apply below_alloc|apply pw_below_drewN|apply below_drew1|refine below_set ?_ GE402.out|refine below_set ?_ GE432.out|refine below_set ?_ GE445.out|refine below_set ?_ GE462.out)|exact HB.out));(case side2=>exact Kd.R_tight rfl HO_11.out);rintro e w102 ⟨rfl,hy0,hb,hkp⟩;refine ⟨_,rfl,?_⟩;replace HO_433000:=Aside0.mk (Kd.S_mono (ok':=fun k_=>some k_ ≠ (.slice Ao49 t446.length co49 : Value).ownBlock∧some k_ ≠ (.slice Ao34 t422.length co34 : Value).ownBlock∧some k_ ≠ (.slice Ao52 t449.length co52 : Value).ownBlock∧some k_ ≠ (.slice Ao57 t452.length co57 : Value).ownBlock∧w23.heap.size ≤ k_∧k_ < w30.heap.size∧k_ < w47.heap.size∧k_ < w88.heap.size) (Kd.S_keptB (HO_433000.out) hkp (fun k_ hk_ hs_=>(hk_.1) hs_)) (fun k_ hk_=>⟨hk_.1.1,hk_.1.2.1,hk_.1.2.2.1,hk_.1.2.2.2.1,hk_.1.2.2.2.2.2.1,hk_.1.2.2.2.2.2.2.1,hk_.1.2.2.2.2.2.2.2.1,hk_.1.2.2.2.2.2.2.2.2⟩));replace HO_433001:=Aside0.mk (Kd.R_mono (ok':=fun k_=>some k_ ≠ (.slice Ao49 t446.length co49 : Value).ownBlock∧some k_ ≠ (.slice Ao57 t452.length co57 : Value).ownBlock) (Kd.R_keptB (HO_433001.out) hkp (fun k_ hk_ hs_=>(hk_.1) hs_)) (fun k_ hk_=>⟨hk_.1.1,hk_.1.2.1⟩));replace HO_433002:=Aside0.mk (Kd.R_mono (ok':=fun k_=>some k_ ≠ (.slice Ao36 t428.length co36 : Value).ownBlock∧some k_ ≠ (.slice Ao58 t455.length co58 : Value).ownBlock∧some k_ ≠ (.slice Ao59 t458.length co59 : Value).ownBlock) (Kd.R_keptB ((Kd.R_apart' HO_433002.out (Kd.R_typed HO_11.out) (by decide))) hkp (fun k_ hk_ hs_=>(hk_.2) hs_)) (fun k_ hk_=>⟨hk_.1.1.1,hk_.1.1.2.1,hk_.1.1.2.2⟩));replace HO_433003:=Aside0.mk (Kd.R_mono (ok':=fun k_=>some k_ ≠ (.slice Ao35 t425.length co35 : Value).ownBlock∧some k_ ≠ (.slice Ao58 t455.length co58 : Value).ownBlock∧some k_ ≠ (.slice Ao59 t458.length co59 : Value).ownBlock) (Kd.R_keptB ((Kd.R_apart' HO_433003.out (Kd.R_typed HO_11.out) (by decide))) hkp (fun k_ hk_ hs_=>(hk_.2) hs_)) (fun k_ hk_=>⟨hk_.1.1.1,hk_.1.1.2.1,hk_.1.1.2.2⟩));replace HO_463000:=Aside0.mk (Kd.S_mono (ok':=fun k_=>some k_ ≠ (.slice Ao49 t446.length co49 : Value).ownBlock∧some k_ ≠ (.slice Ao31 t419.length co31 : Value).ownBlock∧some k_ ≠ (.slice Ao34 t422.length co34 : Value).ownBlock∧some k_ ≠ (.slice Ao57 t452.length co57 : Value).ownBlock∧w47.heap.size ≤ k_∧k_ < w88.heap.size) (Kd.S_keptB (HO_463000.out) hkp (fun k_ hk_ hs_=>(hk_.1) hs_)) (fun k_ hk_=>⟨hk_.1.1,hk_.1.2.1,hk_.1.2.2.1,hk_.1.2.2.2.1,hk_.1.2.2.2.2.2.1,hk_.1.2.2.2.2.2.2⟩));replace HO_463001:=Aside0.mk (Kd.R_mono (ok':=fun k_=>some k_ ≠ (.slice Ao49 t446.length co49 : Value).ownBlock∧some k_ ≠ (.slice Ao34 t422.length co34 : Value).ownBlock) (Kd.R_keptB (HO_463001.out) hkp (fun k_ hk_ hs_=>(hk_.1) hs_)) (fun k_ hk_=>⟨hk_.1.1,hk_.1.2.1⟩));replace HO_463002:=Aside0.mk (Kd.R_mono (ok':=fun k_=>some k_ ≠ (.slice Ao35 t425.length co35 : Value).ownBlock∧some k_ ≠ (.slice Ao36 t428.length co36 : Value).ownBlock∧some k_ ≠ (.slice Ao59 t458.length co59 : Value).ownBlock) (Kd.R_keptB ((Kd.R_apart' HO_463002.out (Kd.R_typed HO_11.out) (by decide))) hkp (fun k_ hk_ hs_=>(hk_.2) hs_)) (fun k_ hk_=>⟨hk_.1.1.1,hk_.1.1.2.1,hk_.1.1.2.2⟩));replace HO_463003:=Aside0.mk (Kd.R_mono (ok':=fun k_=>some k_ ≠ (.slice Ao35 t425.length co35 : Value).ownBlock∧some k_ ≠ (.slice Ao36 t428.length co36 : Value).ownBlock∧some k_ ≠ (.slice Ao58 t455.length co58 : Value).ownBlock) (Kd.R_keptB ((Kd.R_apart' HO_463003.out (Kd.R_typed HO_11.out) (by decide))) hkp (fun k_ hk_ hs_=>(hk_.2) hs_)) (fun k_ hk_=>⟨hk_.1.1.1,hk_.1.1.2.1,hk_.1.1.2.2⟩));replace BK402:=Aside0.mk (blk_kept (g:=gb402) (o:=.cells #[.slice A0_0 l0_0.length c0_0,.slice A0_1 l0_1.length c0_1,.slice A0_2 l0_2.length c0_2,.slice A0_3 l0_3.length c0_3] 26 (0,0)) BK402.out hkp (fun hs_=>(fun e_=>(Kd.R_ne HO_11.out BK402.out (by decide)) e_) hs_));replace BK432:=Aside0.mk (blk_kept (g:=gb432) (o:=.cells #[.slice Ao31 t419.length co31,.slice Ao34 t422.length co34,.slice Ao35 t425.length co35,.slice Ao36 t428.length co36] 29 (0,0)) BK432.out hkp (fun hs_=>(fun e_=>(Kd.R_ne HO_11.out BK432.out (by decide)) e_) hs_));replace BK445:=Aside0.mk (blk_kept (g:=gb445) (o:=.cells #[.slice Ao40 t433.length co40,.slice Ao44 t436.length co44,.slice Ao45 t439.length co45,.slice Ao46 t442.length co46] 29 (0,0)) BK445.out hkp (fun hs_=>(fun e_=>(Kd.R_ne HO_11.out BK445.out (by decide)) e_) hs_));replace BK462:=Aside0.mk (blk_kept (g:=gb462) (o:=.cells #[.slice Ao52 t449.length co52,.slice Ao57 t452.length co57,.slice Ao58 t455.length co58,.slice Ao59 t458.length co59] 29 (0,0)) BK462.out hkp (fun hs_=>(fun e_=>(Kd.R_ne HO_11.out BK462.out (by decide)) e_) hs_));replace HO_11:=Aside0.mk (Kd.R_reok rfl hy0 (fun k_ e_=>HO_11.out.1 k_ e_));replace HB:=Aside0.mk (hb);clear hb hkp hy0))
        (try simp only [Act.put,List.setIfInBounds_toArray,List.set_cons_zero,List.set_cons_succ])
        go_cut [84] (fun v84 wc=>∃ (kq : Nat) (x84_86 : Bool),v84 = .bool x84_86∧Aside0 (laws_FnExactPutIn.j1 kq a1 l2 t431 x84_86 l0_0 l0_1 l0_2 l0_3 t419 t422 t425 t428 t449 t452 t455 t458 = some r)∧Aside0 (kq ≤ kj16)∧Aside0 (Kd.S (Kd.slice 5 (Kd.int .u8)) 23 wc w.heap.size (fun k_=>some k_ ≠ ((.slice Ao34 t422.length co34) : Value).ownBlock∧some k_ ≠ ((.slice Ao52 t449.length co52) : Value).ownBlock∧some k_ ≠ ((.slice Ao57 t452.length co57) : Value).ownBlock∧w23.heap.size ≤ k_∧k_ < w30.heap.size∧k_ < w47.heap.size∧k_ < w88.heap.size) (.slice Ao31 t419.length co31) t419)∧Aside0 (Kd.R (Kd.int .u8) 5 wc w.heap.size (fun k_=>some k_ ≠ ((.slice Ao57 t452.length co57) : Value).ownBlock) (.slice Ao34 t422.length co34) t422)∧Aside0 (Kd.R (Kd.int .i64) 3 wc w.heap.size (fun k_=>some k_ ≠ ((.slice Ao36 t428.length co36) : Value).ownBlock∧some k_ ≠ ((.slice Ao58 t455.length co58) : Value).ownBlock∧some k_ ≠ ((.slice Ao59 t458.length co59) : Value).ownBlock) (.slice Ao35 t425.length co35) t425)∧Aside0 (Kd.R (Kd.int .i64) 3 wc w.heap.size (fun k_=>some k_ ≠ ((.slice Ao35 t425.length co35) : Value).ownBlock∧some k_ ≠ ((.slice Ao58 t455.length co58) : Value).ownBlock∧some k_ ≠ ((.slice Ao59 t458.length co59) : Value).ownBlock) (.slice Ao36 t428.length co36) t428)∧Aside0 (Kd.S (Kd.slice 5 (Kd.int .u8)) 23 wc w.heap.size (fun k_=>some k_ ≠ ((.slice Ao31 t419.length co31) : Value).ownBlock∧some k_ ≠ ((.slice Ao34 t422.length co34) : Value).ownBlock∧some k_ ≠ ((.slice Ao57 t452.length co57) : Value).ownBlock∧w47.heap.size ≤ k_∧k_ < w88.heap.size) (.slice Ao52 t449.length co52) t449)∧Aside0 (Kd.R (Kd.int .u8) 5 wc w.heap.size (fun k_=>some k_ ≠ ((.slice Ao34 t422.length co34) : Value).ownBlock) (.slice Ao57 t452.length co57) t452)∧Aside0 (Kd.R (Kd.int .i64) 3 wc w.heap.size (fun k_=>some k_ ≠ ((.slice Ao35 t425.length co35) : Value).ownBlock∧some k_ ≠ ((.slice Ao36 t428.length co36) : Value).ownBlock∧some k_ ≠ ((.slice Ao59 t458.length co59) : Value).ownBlock) (.slice Ao58 t455.length co58) t455)∧Aside0 (Kd.R (Kd.int .i64) 3 wc w.heap.size (fun k_=>some k_ ≠ ((.slice Ao35 t425.length co35) : Value).ownBlock∧some k_ ≠ ((.slice Ao36 t428.length co36) : Value).ownBlock∧some k_ ≠ ((.slice Ao58 t455.length co58) : Value).ownBlock) (.slice Ao59 t458.length co59) t458)∧Aside0 (wc.heap[gb402]? = some (.cells #[(.slice A0_0 l0_0.length c0_0),(.slice A0_1 l0_1.length c0_1),(.slice A0_2 l0_2.length c0_2),(.slice A0_3 l0_3.length c0_3)] 26 (0,0)))∧Aside0 (wc.heap[gb432]? = some (.cells #[(.slice Ao31 t419.length co31),(.slice Ao34 t422.length co34),(.slice Ao35 t425.length co35),(.slice Ao36 t428.length co36)] 29 (0,0)))∧Aside0 (wc.heap[gb462]? = some (.cells #[(.slice Ao52 t449.length co52),(.slice Ao57 t452.length co57),(.slice Ao58 t455.length co58),(.slice Ao59 t458.length co59)] 29 (0,0)))∧Aside0 (Below w.heap.size w wc))
        case first =>
         have H:=HC87.out
         clear HC87
         by_cases c103 : t486 < 0
         ·rw [if_pos c103] at H
          have c103b0 : decide (t486 < 0) = true:=decide_eq_true c103
          clear c103
          (first|rw [c103b0]|(simp only [i64_w,i32_w];rw [c103b0])|skip)
          have H':=Aside0.mk H
          clear H
          go_wp2
          go_meet
          case rel=>exact ⟨_,(true),(by first|rfl|(simp;done)|(simp [*];done)),H',⟨by have:=HJ16.out;first|omega|exact Nat.le_refl _⟩,⟨by exact Kd.S_mono HO_433000.out (fun _ hk=>⟨hk.2.1,⟨hk.2.2.1,⟨hk.2.2.2.1,⟨hk.2.2.2.2.1,⟨hk.2.2.2.2.2.1,⟨hk.2.2.2.2.2.2.1,hk.2.2.2.2.2.2.2⟩⟩⟩⟩⟩⟩)⟩,⟨by exact Kd.R_mono HO_433001.out (fun _ hk=>hk.2)⟩,⟨by exact HO_433002.out⟩,⟨by exact HO_433003.out⟩,⟨by exact Kd.S_mono HO_463000.out (fun _ hk=>⟨hk.2.1,⟨hk.2.2.1,⟨hk.2.2.2.1,⟨hk.2.2.2.2.1,hk.2.2.2.2.2⟩⟩⟩⟩)⟩,⟨by exact Kd.R_mono HO_463001.out (fun _ hk=>hk.2)⟩,⟨by exact HO_463002.out⟩,⟨by exact HO_463003.out⟩,⟨by exact BK402.out⟩,⟨by exact BK432.out⟩,⟨by exact BK462.out⟩,⟨by repeat (first|(with_reducible first|exact HB.out|apply below_alloc|apply pw_below_drewN|apply below_drew1|refine below_set ?_ GE402.out|refine below_set ?_ GE432.out|refine below_set ?_ GE445.out|refine below_set ?_ GE462.out)|exact HB.out)⟩⟩
         ·rw [if_neg c103] at H
          have c103b0 : decide (t486 < 0) = false:=decide_eq_false c103
          clear c103
          (first|rw [c103b0]|(simp only [i64_w,i32_w];rw [c103b0])|skip)
          replace H:=Option.bind_eq_some_iff.mp H
          obtain ⟨t488,A1040,H⟩:=H
          replace H : (if t488 = true then (laws_FnExactPutIn.j1 kj16 a1 l2 t431 (t461 != t431) l0_0 l0_1 l0_2 l0_3 t419 t422 t425 t428 t449 t452 t455 t458) else (laws_FnExactPutIn.j1 kj16 a1 l2 t431 true l0_0 l0_1 l0_2 l0_3 t419 t422 t425 t428 t449 t452 t455 t458)) = some r:=H
          have A104:=Aside0.mk A1040
          clear A1040
          by_cases c105 : t488 = true
          ·subst c105
           have H1 : (laws_FnExactPutIn.j1 kj16 a1 l2 t431 (t461 != t431) l0_0 l0_1 l0_2 l0_3 t419 t422 t425 t428 t449 t452 t455 t458) = some r:=by rw [if_pos rfl] at H;exact H
           clear H
           have H:=H1
           clear H1
           have H':=Aside0.mk H
           clear H
           have hnb106:=NB462_402.out
           have hnc106:=NB402_462.out
           have hnb107:=NB462_432.out
           have hnc107:=NB432_462.out
           have hnb108:=NB462_445.out
           have hnc108:=NB445_462.out
           have hcz109_0 : w102.cell? ⟨gb462,0,none⟩ = some (.slice Ao52 t449.length co52):=(blk_cell BK462.out 0).trans rfl
           have hcz109_1 : w102.cell? ⟨gb462,1,none⟩ = some (.slice Ao57 t452.length co57):=(blk_cell BK462.out 1).trans rfl
           have hcz109_2 : w102.cell? ⟨gb462,2,none⟩ = some (.slice Ao58 t455.length co58):=(blk_cell BK462.out 2).trans rfl
           have hcz109_3 : w102.cell? ⟨gb462,3,none⟩ = some (.slice Ao59 t458.length co59):=(blk_cell BK462.out 3).trans rfl
           have hfz109_0:=blk_frozen BK462.out 0
           have hfz109_1:=blk_frozen BK462.out 1
           have hfz109_2:=blk_frozen BK462.out 2
           have hfz109_3:=blk_frozen BK462.out 3
           have hnb110:=NB432_402.out
           have hnc110:=NB402_432.out
           have hnb111:=NB432_445.out
           have hnc111:=NB445_432.out
           have hcz112_0 : w102.cell? ⟨gb432,0,none⟩ = some (.slice Ao31 t419.length co31):=(blk_cell BK432.out 0).trans rfl
           have hcz112_1 : w102.cell? ⟨gb432,1,none⟩ = some (.slice Ao34 t422.length co34):=(blk_cell BK432.out 1).trans rfl
           have hcz112_2 : w102.cell? ⟨gb432,2,none⟩ = some (.slice Ao35 t425.length co35):=(blk_cell BK432.out 2).trans rfl
           have hcz112_3 : w102.cell? ⟨gb432,3,none⟩ = some (.slice Ao36 t428.length co36):=(blk_cell BK432.out 3).trans rfl
           have hfz112_0:=blk_frozen BK432.out 0
           have hfz112_1:=blk_frozen BK432.out 1
           have hfz112_2:=blk_frozen BK432.out 2
           have hfz112_3:=blk_frozen BK432.out 3
           go_wp2_with (first|(go_at_call 14;(with_reducible refine (laws_eqSpace.calls kj16 _ _ t449 _ _ t452 _ _ t455 _ _ t458 _ _ t419 _ _ t422 _ _ t425 _ _ t428 true _ ?side1 ?side2 ?side3 ?side4 ?side5 ?side6 ?side7 ?side8 ?side9 ?side10 ?side11 ?side12 ?side13 ?side14 ?side15 ?side16 A104.out).mono ?_);(case side1=>exact (Kd.S_reads' HO_463000.out).2.2);(case side2=>exact (Kd.S_reads' HO_463000.out).2.1);(case side3=>exact (Kd.R_reads' HO_463001.out).2.2);(case side4=>exact (Kd.R_reads' HO_463001.out).2.1);(case side5=>exact (Kd.R_reads' HO_463002.out).2.2);(case side6=>exact (Kd.R_reads' HO_463002.out).2.1);(case side7=>exact (Kd.R_reads' HO_463003.out).2.2);(case side8=>exact (Kd.R_reads' HO_463003.out).2.1);(case side9=>exact (Kd.S_reads' HO_433000.out).2.2);(case side10=>exact (Kd.S_reads' HO_433000.out).2.1);(case side11=>exact (Kd.R_reads' HO_433001.out).2.2);(case side12=>exact (Kd.R_reads' HO_433001.out).2.1);(case side13=>exact (Kd.R_reads' HO_433002.out).2.2);(case side14=>exact (Kd.R_reads' HO_433002.out).2.1);(case side15=>exact (Kd.R_reads' HO_433003.out).2.2);(case side16=>exact (Kd.R_reads' HO_433003.out).2.1);rintro e w113 ⟨rfl,hb⟩;have n0_:=Aside0.mk (Kd.S_below HO_433000.out hb);have n1_:=Aside0.mk (Kd.R_below HO_433001.out hb);have n2_:=Aside0.mk (Kd.R_below HO_433002.out hb);have n3_:=Aside0.mk (Kd.R_below HO_433003.out hb);have n4_:=Aside0.mk (Kd.S_below HO_463000.out hb);have n5_:=Aside0.mk (Kd.R_below HO_463001.out hb);have n6_:=Aside0.mk (Kd.R_below HO_463002.out hb);have n7_:=Aside0.mk (Kd.R_below HO_463003.out hb);have n8_:=Aside0.mk (blk_below BK402.out hb);have n9_:=Aside0.mk (blk_below BK432.out hb);have n10_:=Aside0.mk (blk_below BK445.out hb);have n11_:=Aside0.mk (blk_below BK462.out hb);have n12_:=Aside0.mk (below_step HB.out hb);clear HO_433000;clear HO_433001;clear HO_433002;clear HO_433003;clear HO_463000;clear HO_463001;clear HO_463002;clear HO_463003;clear BK402;clear BK432;clear BK445;clear BK462;clear HB;clear HO_11;have HO_433000:=n0_;have HO_433001:=n1_;have HO_433002:=n2_;have HO_433003:=n3_;have HO_463000:=n4_;have HO_463001:=n5_;have HO_463002:=n6_;have HO_463003:=n7_;have BK402:=n8_;have BK432:=n9_;have BK445:=n10_;have BK462:=n11_;have HB:=n12_;clear n0_ n1_ n2_ n3_ n4_ n5_ n6_ n7_ n8_ n9_ n10_ n11_ n12_;(try clear hb);(try clear hb2);(try clear hk);(try clear hi)))
           go_meet
           case rel=>exact ⟨_,((t461 != t431)),(by first|rfl|(simp;done)|(simp [*];done)),H',⟨by have:=HJ16.out;first|omega|exact Nat.le_refl _⟩,⟨by exact Kd.S_mono HO_433000.out (fun _ hk=>⟨hk.2.1,⟨hk.2.2.1,⟨hk.2.2.2.1,⟨hk.2.2.2.2.1,⟨hk.2.2.2.2.2.1,⟨hk.2.2.2.2.2.2.1,hk.2.2.2.2.2.2.2⟩⟩⟩⟩⟩⟩)⟩,⟨by exact Kd.R_mono HO_433001.out (fun _ hk=>hk.2)⟩,⟨by exact HO_433002.out⟩,⟨by exact HO_433003.out⟩,⟨by exact Kd.S_mono HO_463000.out (fun _ hk=>⟨hk.2.1,⟨hk.2.2.1,⟨hk.2.2.2.1,⟨hk.2.2.2.2.1,hk.2.2.2.2.2⟩⟩⟩⟩)⟩,⟨by exact Kd.R_mono HO_463001.out (fun _ hk=>hk.2)⟩,⟨by exact HO_463002.out⟩,⟨by exact HO_463003.out⟩,⟨by exact BK402.out⟩,⟨by exact BK432.out⟩,⟨by exact BK462.out⟩,⟨by repeat (first|(with_reducible first|exact HB.out|apply below_alloc|apply pw_below_drewN|apply below_drew1|refine below_set ?_ GE402.out|refine below_set ?_ GE432.out|refine below_set ?_ GE445.out|refine below_set ?_ GE462.out)|exact HB.out)⟩⟩
          ·replace c105:=Bool.eq_false_iff.mpr c105
           subst c105
           have H1 : (laws_FnExactPutIn.j1 kj16 a1 l2 t431 true l0_0 l0_1 l0_2 l0_3 t419 t422 t425 t428 t449 t452 t455 t458) = some r:=by rw [if_neg (show ¬ (false = true) by decide)] at H;exact H
           clear H
           have H:=H1
           clear H1
           have H':=Aside0.mk H
           clear H
           have hnb114:=NB462_402.out
           have hnc114:=NB402_462.out
           have hnb115:=NB462_432.out
           have hnc115:=NB432_462.out
           have hnb116:=NB462_445.out
           have hnc116:=NB445_462.out
           have hcz117_0 : w102.cell? ⟨gb462,0,none⟩ = some (.slice Ao52 t449.length co52):=(blk_cell BK462.out 0).trans rfl
           have hcz117_1 : w102.cell? ⟨gb462,1,none⟩ = some (.slice Ao57 t452.length co57):=(blk_cell BK462.out 1).trans rfl
           have hcz117_2 : w102.cell? ⟨gb462,2,none⟩ = some (.slice Ao58 t455.length co58):=(blk_cell BK462.out 2).trans rfl
           have hcz117_3 : w102.cell? ⟨gb462,3,none⟩ = some (.slice Ao59 t458.length co59):=(blk_cell BK462.out 3).trans rfl
           have hfz117_0:=blk_frozen BK462.out 0
           have hfz117_1:=blk_frozen BK462.out 1
           have hfz117_2:=blk_frozen BK462.out 2
           have hfz117_3:=blk_frozen BK462.out 3
           have hnb118:=NB432_402.out
           have hnc118:=NB402_432.out
           have hnb119:=NB432_445.out
           have hnc119:=NB445_432.out
           have hcz120_0 : w102.cell? ⟨gb432,0,none⟩ = some (.slice Ao31 t419.length co31):=(blk_cell BK432.out 0).trans rfl
           have hcz120_1 : w102.cell? ⟨gb432,1,none⟩ = some (.slice Ao34 t422.length co34):=(blk_cell BK432.out 1).trans rfl
           have hcz120_2 : w102.cell? ⟨gb432,2,none⟩ = some (.slice Ao35 t425.length co35):=(blk_cell BK432.out 2).trans rfl
           have hcz120_3 : w102.cell? ⟨gb432,3,none⟩ = some (.slice Ao36 t428.length co36):=(blk_cell BK432.out 3).trans rfl
           have hfz120_0:=blk_frozen BK432.out 0
           have hfz120_1:=blk_frozen BK432.out 1
           have hfz120_2:=blk_frozen BK432.out 2
           have hfz120_3:=blk_frozen BK432.out 3
           go_wp2_with (first|(go_at_call 14;(with_reducible refine (laws_eqSpace.calls kj16 _ _ t449 _ _ t452 _ _ t455 _ _ t458 _ _ t419 _ _ t422 _ _ t425 _ _ t428 false _ ?side1 ?side2 ?side3 ?side4 ?side5 ?side6 ?side7 ?side8 ?side9 ?side10 ?side11 ?side12 ?side13 ?side14 ?side15 ?side16 A104.out).mono ?_);(case side1=>exact (Kd.S_reads' HO_463000.out).2.2);(case side2=>exact (Kd.S_reads' HO_463000.out).2.1);(case side3=>exact (Kd.R_reads' HO_463001.out).2.2);(case side4=>exact (Kd.R_reads' HO_463001.out).2.1);(case side5=>exact (Kd.R_reads' HO_463002.out).2.2);(case side6=>exact (Kd.R_reads' HO_463002.out).2.1);(case side7=>exact (Kd.R_reads' HO_463003.out).2.2);(case side8=>exact (Kd.R_reads' HO_463003.out).2.1);(case side9=>exact (Kd.S_reads' HO_433000.out).2.2);(case side10=>exact (Kd.S_reads' HO_433000.out).2.1);(case side11=>exact (Kd.R_reads' HO_433001.out).2.2);(case side12=>exact (Kd.R_reads' HO_433001.out).2.1);(case side13=>exact (Kd.R_reads' HO_433002.out).2.2);(case side14=>exact (Kd.R_reads' HO_433002.out).2.1);(case side15=>exact (Kd.R_reads' HO_433003.out).2.2);(case side16=>exact (Kd.R_reads' HO_433003.out).2.1);rintro e w121 ⟨rfl,hb⟩;have n0_:=Aside0.mk (Kd.S_below HO_433000.out hb);have n1_:=Aside0.mk (Kd.R_below HO_433001.out hb);have n2_:=Aside0.mk (Kd.R_below HO_433002.out hb);have n3_:=Aside0.mk (Kd.R_below HO_433003.out hb);have n4_:=Aside0.mk (Kd.S_below HO_463000.out hb);have n5_:=Aside0.mk (Kd.R_below HO_463001.out hb);have n6_:=Aside0.mk (Kd.R_below HO_463002.out hb);have n7_:=Aside0.mk (Kd.R_below HO_463003.out hb);have n8_:=Aside0.mk (blk_below BK402.out hb);have n9_:=Aside0.mk (blk_below BK432.out hb);have n10_:=Aside0.mk (blk_below BK445.out hb);have n11_:=Aside0.mk (blk_below BK462.out hb);have n12_:=Aside0.mk (below_step HB.out hb);clear HO_433000;clear HO_433001;clear HO_433002;clear HO_433003;clear HO_463000;clear HO_463001;clear HO_463002;clear HO_463003;clear BK402;clear BK432;clear BK445;clear BK462;clear HB;clear HO_11;have HO_433000:=n0_;have HO_433001:=n1_;have HO_433002:=n2_;have HO_433003:=n3_;have HO_463000:=n4_;have HO_463001:=n5_;have HO_463002:=n6_;have HO_463003:=n7_;have BK402:=n8_;have BK432:=n9_;have BK445:=n10_;have BK462:=n11_;have HB:=n12_;clear n0_ n1_ n2_ n3_ n4_ n5_ n6_ n7_ n8_ n9_ n10_ n11_ n12_;(try clear hb);(try clear hb2);(try clear hk);(try clear hi)))
           go_meet
           case rel=>exact ⟨_,(true),(by first|rfl|(simp;done)|(simp [*];done)),H',⟨by have:=HJ16.out;first|omega|exact Nat.le_refl _⟩,⟨by exact Kd.S_mono HO_433000.out (fun _ hk=>⟨hk.2.1,⟨hk.2.2.1,⟨hk.2.2.2.1,⟨hk.2.2.2.2.1,⟨hk.2.2.2.2.2.1,⟨hk.2.2.2.2.2.2.1,hk.2.2.2.2.2.2.2⟩⟩⟩⟩⟩⟩)⟩,⟨by exact Kd.R_mono HO_433001.out (fun _ hk=>hk.2)⟩,⟨by exact HO_433002.out⟩,⟨by exact HO_433003.out⟩,⟨by exact Kd.S_mono HO_463000.out (fun _ hk=>⟨hk.2.1,⟨hk.2.2.1,⟨hk.2.2.2.1,⟨hk.2.2.2.2.1,hk.2.2.2.2.2⟩⟩⟩⟩)⟩,⟨by exact Kd.R_mono HO_463001.out (fun _ hk=>hk.2)⟩,⟨by exact HO_463002.out⟩,⟨by exact HO_463003.out⟩,⟨by exact BK402.out⟩,⟨by exact BK432.out⟩,⟨by exact BK462.out⟩,⟨by repeat (first|(with_reducible first|exact HB.out|apply below_alloc|apply pw_below_drewN|apply below_drew1|refine below_set ?_ GE402.out|refine below_set ?_ GE432.out|refine below_set ?_ GE445.out|refine below_set ?_ GE462.out)|exact HB.out)⟩⟩
        case rest =>
         clear HC87
         try clear c1;try clear c2;try clear p2;try clear c3;try clear c4;try clear c4b0;try clear c4b1;try clear c5;try clear c6;try clear c7;try clear c7b0;try clear c8;try clear c9;try clear c10;try clear c11;try clear c12;try clear c14;try clear c20;try clear c30;try clear c31;try clear c32;try clear c33;try clear c34;try clear c41;try clear c42;try clear c53;try clear c54;try clear c55;try clear c61;try clear c62;try clear c63;try clear c64;try clear c66;try clear c67;try clear c70;try clear c71;try clear c72;try clear c74;try clear c75;try clear c78;try clear c81;try clear c84;try clear c97;try clear c98;try clear c99;try clear c103;try clear c103b0;try clear c105;try clear c106;try clear c107;try clear c108;try clear c110;try clear c111;try clear c114;try clear c115;try clear c116;try clear c118;try clear c119;try clear hcz100_0;try clear hcz100_1;try clear hcz100_2;try clear hcz100_3;try clear hcz109_0;try clear hcz109_1;try clear hcz109_2;try clear hcz109_3;try clear hcz112_0;try clear hcz112_1;try clear hcz112_2;try clear hcz112_3;try clear hcz117_0;try clear hcz117_1;try clear hcz117_2;try clear hcz117_3;try clear hcz120_0;try clear hcz120_1;try clear hcz120_2;try clear hcz120_3;try clear hcz19_0;try clear hcz19_1;try clear hcz19_2;try clear hcz19_3;try clear hcz21_0;try clear hcz21_1;try clear hcz21_2;try clear hcz21_3;try clear hcz33_0;try clear hcz33_1;try clear hcz33_2;try clear hcz33_3;try clear hcz37_0;try clear hcz37_1;try clear hcz37_2;try clear hcz37_3;try clear hcz43_0;try clear hcz43_1;try clear hcz43_2;try clear hcz43_3;try clear hcz48_0;try clear hcz48_1;try clear hcz48_2;try clear hcz48_3;try clear hcz56_0;try clear hcz56_1;try clear hcz56_2;try clear hcz56_3;try clear hcz65_0;try clear hcz65_1;try clear hcz65_2;try clear hcz65_3;try clear hcz68_0;try clear hcz68_1;try clear hcz68_2;try clear hcz68_3;try clear hcz73_0;try clear hcz73_1;try clear hcz73_2;try clear hcz73_3;try clear hcz76_0;try clear hcz76_1;try clear hcz76_2;try clear hcz76_3;try clear hcz9_0;try clear hcz9_1;try clear hcz9_2;try clear hcz9_3;try clear hfz100_0;try clear hfz100_1;try clear hfz100_2;try clear hfz100_3;try clear hfz109_0;try clear hfz109_1;try clear hfz109_2;try clear hfz109_3;try clear hfz112_0;try clear hfz112_1;try clear hfz112_2;try clear hfz112_3;try clear hfz117_0;try clear hfz117_1;try clear hfz117_2;try clear hfz117_3;try clear hfz120_0;try clear hfz120_1;try clear hfz120_2;try clear hfz120_3;try clear hfz19_0;try clear hfz19_1;try clear hfz19_2;try clear hfz19_3;try clear hfz21_0;try clear hfz21_1;try clear hfz21_2;try clear hfz21_3;try clear hfz33_0;try clear hfz33_1;try clear hfz33_2;try clear hfz33_3;try clear hfz37_0;try clear hfz37_1;try clear hfz37_2;try clear hfz37_3;try clear hfz43_0;try clear hfz43_1;try clear hfz43_2;try clear hfz43_3;try clear hfz48_0;try clear hfz48_1;try clear hfz48_2;try clear hfz48_3;try clear hfz56_0;try clear hfz56_1;try clear hfz56_2;try clear hfz56_3;try clear hfz65_0;try clear hfz65_1;try clear hfz65_2;try clear hfz65_3;try clear hfz68_0;try clear hfz68_1;try clear hfz68_2;try clear hfz68_3;try clear hfz73_0;try clear hfz73_1;try clear hfz73_2;try clear hfz73_3;try clear hfz76_0;try clear hfz76_1;try clear hfz76_2;try clear hfz76_3;try clear hfz9_0;try clear hfz9_1;try clear hfz9_2;try clear hfz9_3;try clear p2
         obtain ⟨kq,x84_86,rfl,HA,HJ86,HO_433000,HO_433001,HO_433002,HO_433003,HO_463000,HO_463001,HO_463002,HO_463003,BK402,BK432,BK462,HB⟩:=hcut
         cases kq with
         | zero=>exact absurd HA.out (by simp [laws_FnExactPutIn.j1])
         | succ kj86 =>
          have H:=HA.out
          clear HA
          simp only [laws_FnExactPutIn.j1] at H
          by_cases c122 : x84_86 = true
          ·subst c122
           have H1 : (some false) = some r:=by rw [if_pos rfl] at H;exact H
           clear H
           have H:=H1
           clear H1
           obtain rfl:=Option.some.inj H
           go_wp2
           go_ret
           exact ⟨by first|rfl|(simp [*,errW_none,errW_some] <;> rfl),by repeat (first|(with_reducible first|exact HB.out|apply below_alloc|apply pw_below_drewN|apply below_drew1|refine below_set ?_ GE402.out|refine below_set ?_ GE432.out|refine below_set ?_ GE462.out)|exact HB.out)⟩
          ·replace c122:=Bool.eq_false_iff.mpr c122
           subst c122
           have H1 : ((laws_markSpace.f kj86 t449 t452 t455 t458 1).bind fun bt489=>((laws_heldSpace.f kj86 bt489.2.1 bt489.2.2.1 bt489.2.2.2.1 bt489.2.2.2.2 1).bind fun t494=>(if t494 < 0 then (some false) else (if t494 = bt489.1 then ((laws_toSpace.f kj86 l0_0 l0_1 l0_2 l0_3).bind fun bt495=>((laws_toByteS.f kj86 l2).bind fun t507=>((impl_PutIn.f kj86 bt495.1 bt495.2.1 bt495.2.2.1 bt495.2.2.2 a1 t507).bind fun bt510=>((laws_eqSpace.f kj86 bt510.1 bt510.2.1 bt510.2.2.1 bt510.2.2.2.1 t419 t422 t425 t428).bind fun t524=>(if t524 = true then (laws_FnExactPutIn.j2 kj86 bt489.1 (bt510.2.2.2.2 != t431) bt489.2.1 bt489.2.2.1 bt489.2.2.2.1 bt489.2.2.2.2) else (laws_FnExactPutIn.j2 kj86 bt489.1 true bt489.2.1 bt489.2.2.1 bt489.2.2.2.1 bt489.2.2.2.2)))))) else (some false))))) = some r:=by rw [if_neg (show ¬ (false = true) by decide)] at H;exact H
           clear H
           have H:=H1
           clear H1
           replace H:=Option.bind_eq_some_iff.mp H
           obtain ⟨⟨t489,t490,t491,t492,t493⟩,A1230,H⟩:=H
           replace H : ((laws_heldSpace.f kj86 t490 t491 t492 t493 1).bind fun t494=>(if t494 < 0 then (some false) else (if t494 = t489 then ((laws_toSpace.f kj86 l0_0 l0_1 l0_2 l0_3).bind fun bt495=>((laws_toByteS.f kj86 l2).bind fun t507=>((impl_PutIn.f kj86 bt495.1 bt495.2.1 bt495.2.2.1 bt495.2.2.2 a1 t507).bind fun bt510=>((laws_eqSpace.f kj86 bt510.1 bt510.2.1 bt510.2.2.1 bt510.2.2.2.1 t419 t422 t425 t428).bind fun t524=>(if t524 = true then (laws_FnExactPutIn.j2 kj86 t489 (bt510.2.2.2.2 != t431) t490 t491 t492 t493) else (laws_FnExactPutIn.j2 kj86 t489 true t490 t491 t492 t493)))))) else (some false)))) = some r:=H
           have A123:=Aside0.mk A1230
           clear A1230
           replace H:=Option.bind_eq_some_iff.mp H
           obtain ⟨t494,A1240,H⟩:=H
           replace H : (if t494 < 0 then (some false) else (if t494 = t489 then ((laws_toSpace.f kj86 l0_0 l0_1 l0_2 l0_3).bind fun bt495=>((laws_toByteS.f kj86 l2).bind fun t507=>((impl_PutIn.f kj86 bt495.1 bt495.2.1 bt495.2.2.1 bt495.2.2.2 a1 t507).bind fun bt510=>((laws_eqSpace.f kj86 bt510.1 bt510.2.1 bt510.2.2.1 bt510.2.2.2.1 t419 t422 t425 t428).bind fun t524=>(if t524 = true then (laws_FnExactPutIn.j2 kj86 t489 (bt510.2.2.2.2 != t431) t490 t491 t492 t493) else (laws_FnExactPutIn.j2 kj86 t489 true t490 t491 t492 t493)))))) else (some false))) = some r:=H
           have A124:=Aside0.mk A1240
           clear A1240
           by_cases c125 : t494 < 0
           ·rw [if_pos c125] at H
            have c125b0 : decide (t494 < 0) = true:=decide_eq_true c125
            clear c125
            obtain rfl:=Option.some.inj H
            have hnb126:=NB462_402.out
            have hnc126:=NB402_462.out
            have hnb127:=NB462_432.out
            have hnc127:=NB432_462.out
            have hcz128_0 : wc.cell? ⟨gb462,0,none⟩ = some (.slice Ao52 t449.length co52):=(blk_cell BK462.out 0).trans rfl
            have hcz128_1 : wc.cell? ⟨gb462,1,none⟩ = some (.slice Ao57 t452.length co57):=(blk_cell BK462.out 1).trans rfl
            have hcz128_2 : wc.cell? ⟨gb462,2,none⟩ = some (.slice Ao58 t455.length co58):=(blk_cell BK462.out 2).trans rfl
            have hcz128_3 : wc.cell? ⟨gb462,3,none⟩ = some (.slice Ao59 t458.length co59):=(blk_cell BK462.out 3).trans rfl
            have hfz128_0:=blk_frozen BK462.out 0
            have hfz128_1:=blk_frozen BK462.out 1
            have hfz128_2:=blk_frozen BK462.out 2
            have hfz128_3:=blk_frozen BK462.out 3
            go_wp2_with (first|((with_reducible refine gate_callee (f:=20) rfl ?_);refine goesL_ (some 87) rfl rfl Try.func20 (by kernel_rfl) rfl #[.agg #[.slice Ao52 t449.length co52,.slice Ao57 t452.length co57,.slice Ao58 t455.length co58,.slice Ao59 t458.length co59],.int .i64 1] rfl (by (try simp only [List.map_toArray,List.map_cons,List.map_nil]);first|done|rfl) ?_;(with_reducible refine (laws_markSpace.calls kj86 (SB_ (Kd.slice 5 (Kd.int .u8)) 23 wc w.heap.size (fun k_=>(some k_ ≠ (.slice Ao31 t419.length co31 : Value).ownBlock∧(some k_ ≠ (.slice Ao34 t422.length co34 : Value).ownBlock∧(some k_ ≠ (.slice Ao57 t452.length co57 : Value).ownBlock∧(w47.heap.size ≤ k_∧k_ < w88.heap.size)))))) (.slice Ao52 t449.length co52) t449 (fun k_=>some k_ = (.slice Ao57 t452.length co57 : Value).ownBlock) (.slice Ao57 t452.length co57) t452 (fun k_=>some k_ = (.slice Ao58 t455.length co58 : Value).ownBlock) (.slice Ao58 t455.length co58) t455 (fun k_=>some k_ = (.slice Ao59 t458.length co59 : Value).ownBlock) (.slice Ao59 t458.length co59) t458 1 t489 t490 t491 t492 t493 w _ ?side1 ?side2 ?side3 ?side4 ?side5 ?side6 ?side7 ?side8 A123.out).mono ?_);(case side1=>repeat (first|(with_reducible first|exact HB.out|apply below_alloc|apply pw_below_drewN|apply below_drew1|refine below_set ?_ GE402.out|refine below_set ?_ GE432.out|refine below_set ?_ GE462.out)|exact HB.out));(case side2=>exact SB_own HO_463000.out);(case side3=>exact fun k_ h_ e_=>(h_.1.2.2.1) e_);(case side4=>exact Kd.R_tight rfl HO_463001.out);(case side5=>exact Kd.R_tight rfl HO_463002.out);(case side6=>exact fun k_ e_=>(HO_463002.out.1 k_ e_.symm).2.2);(case side7=>exact Kd.R_tight rfl HO_463003.out);(case side8=>exact fun k_ e_=>(HO_463003.out.1 k_ e_.symm).2.2);rintro e w129 ⟨rfl,hy0,hy1,hy2,hy3,hb,hkp⟩;refine ⟨_,rfl,?_⟩;replace HO_463000:=Aside0.mk (Kd.S_mono (ok':=fun k_=>True) hy0 (fun k_ h_=>trivial));replace BK402:=Aside0.mk (blk_kept (g:=gb402) (o:=.cells #[.slice A0_0 l0_0.length c0_0,.slice A0_1 l0_1.length c0_1,.slice A0_2 l0_2.length c0_2,.slice A0_3 l0_3.length c0_3] 26 (0,0)) BK402.out hkp (fun hs_=>Or.elim hs_ (fun e_=>(fun e_=>(blk_SB BK402.out (by decide)) e_) e_) (fun e_=>Or.elim e_ (fun e_=>(fun e_=>(Kd.R_ne HO_463001.out BK402.out (by decide)) e_) e_) (fun e_=>Or.elim e_ (fun e_=>(fun e_=>(Kd.R_ne HO_463002.out BK402.out (by decide)) e_) e_) (fun e_=>(fun e_=>(Kd.R_ne HO_463003.out BK402.out (by decide)) e_) e_)))));replace BK432:=Aside0.mk (blk_kept (g:=gb432) (o:=.cells #[.slice Ao31 t419.length co31,.slice Ao34 t422.length co34,.slice Ao35 t425.length co35,.slice Ao36 t428.length co36] 29 (0,0)) BK432.out hkp (fun hs_=>Or.elim hs_ (fun e_=>(fun e_=>(blk_SB BK432.out (by decide)) e_) e_) (fun e_=>Or.elim e_ (fun e_=>(fun e_=>(Kd.R_ne HO_463001.out BK432.out (by decide)) e_) e_) (fun e_=>Or.elim e_ (fun e_=>(fun e_=>(Kd.R_ne HO_463002.out BK432.out (by decide)) e_) e_) (fun e_=>(fun e_=>(Kd.R_ne HO_463003.out BK432.out (by decide)) e_) e_)))));replace BK462:=Aside0.mk (blk_kept (g:=gb462) (o:=.cells #[.slice Ao52 t449.length co52,.slice Ao57 t452.length co57,.slice Ao58 t455.length co58,.slice Ao59 t458.length co59] 29 (0,0)) BK462.out hkp (fun hs_=>Or.elim hs_ (fun e_=>(fun e_=>(blk_SB BK462.out (by decide)) e_) e_) (fun e_=>Or.elim e_ (fun e_=>(fun e_=>(Kd.R_ne HO_463001.out BK462.out (by decide)) e_) e_) (fun e_=>Or.elim e_ (fun e_=>(fun e_=>(Kd.R_ne HO_463002.out BK462.out (by decide)) e_) e_) (fun e_=>(fun e_=>(Kd.R_ne HO_463003.out BK462.out (by decide)) e_) e_)))));replace HO_463001:=Aside0.mk (Kd.R_reok rfl hy1 (fun k_ e_=>HO_463001.out.1 k_ e_));replace HO_463002:=Aside0.mk (Kd.R_reok rfl hy2 (fun k_ e_=>HO_463002.out.1 k_ e_));replace HO_463003:=Aside0.mk (Kd.R_reok rfl hy3 (fun k_ e_=>HO_463003.out.1 k_ e_));replace HB:=Aside0.mk (hb);clear HO_433000 HO_433001 HO_433002 HO_433003;clear hb hkp hy0 hy1 hy2 hy3;have hcz130_0 : w129.cell? ⟨gb462,0,none⟩ = some (.slice Ao52 t449.length co52):=(blk_cell BK462.out 0).trans rfl;have hcz130_1 : w129.cell? ⟨gb462,1,none⟩ = some (.slice Ao57 t452.length co57):=(blk_cell BK462.out 1).trans rfl;have hcz130_2 : w129.cell? ⟨gb462,2,none⟩ = some (.slice Ao58 t455.length co58):=(blk_cell BK462.out 2).trans rfl;have hcz130_3 : w129.cell? ⟨gb462,3,none⟩ = some (.slice Ao59 t458.length co59):=(blk_cell BK462.out 3).trans rfl;have hfz130_0:=blk_frozen BK462.out 0;have hfz130_1:=blk_frozen BK462.out 1;have hfz130_2:=blk_frozen BK462.out 2;have hfz130_3:=blk_frozen BK462.out 3)|((with_reducible refine gate_callee (f:=29) rfl ?_);refine goesL_ (some 90) rfl rfl Try.func29 (by kernel_rfl) rfl #[.agg #[.slice Ao52 t490.length co52,.slice Ao57 t491.length co57,.slice Ao58 t492.length co58,.slice Ao59 t493.length co59],.int .i64 1] rfl (by (try simp only [List.map_toArray,List.map_cons,List.map_nil]);first|done|(rw [show t490.length = t449.length from (Kd.S_reads' HO_463000.out).1.symm,show t491.length = t452.length from (Kd.R_reads' HO_463001.out).1.symm,show t492.length = t455.length from (Kd.R_reads' HO_463002.out).1.symm,show t493.length = t458.length from (Kd.R_reads' HO_463003.out).1.symm] <;> rfl)|rfl|(simp only [List.length_drop,List.length_take];rfl)) ?_;(with_reducible refine (laws_heldSpace.calls kj86 _ _ t490 _ _ t491 _ _ t492 _ _ t493 1 t494 _ ?side1 ?side2 ?side3 ?side4 ?side5 ?side6 ?side7 ?side8 A124.out).mono ?_);(case side1=>exact (Kd.S_reads' HO_463000.out).2.2);(case side2=>rw [show t490.length = t449.length from (Kd.S_reads' HO_463000.out).1.symm];exact (Kd.S_reads' HO_463000.out).2.1);(case side3=>exact (Kd.R_reads' HO_463001.out).2.2);(case side4=>rw [show t491.length = t452.length from (Kd.R_reads' HO_463001.out).1.symm];exact (Kd.R_reads' HO_463001.out).2.1);(case side5=>exact (Kd.R_reads' HO_463002.out).2.2);(case side6=>rw [show t492.length = t455.length from (Kd.R_reads' HO_463002.out).1.symm];exact (Kd.R_reads' HO_463002.out).2.1);(case side7=>exact (Kd.R_reads' HO_463003.out).2.2);(case side8=>rw [show t493.length = t458.length from (Kd.R_reads' HO_463003.out).1.symm];exact (Kd.R_reads' HO_463003.out).2.1);rintro e w131 ⟨rfl,hb⟩;refine ⟨_,rfl,?_⟩;replace HO_463000:=Aside0.mk (Kd.S_below HO_463000.out hb);replace HO_463001:=Aside0.mk (Kd.R_below HO_463001.out hb);replace HO_463002:=Aside0.mk (Kd.R_below HO_463002.out hb);replace HO_463003:=Aside0.mk (Kd.R_below HO_463003.out hb);replace BK402:=Aside0.mk (blk_below BK402.out hb);replace BK432:=Aside0.mk (blk_below BK432.out hb);replace BK462:=Aside0.mk (blk_below BK462.out hb);replace HB:=Aside0.mk (below_step HB.out hb);clear hb))
            go_ret
            exact ⟨by first|rfl|(simp [*,errW_none,errW_some] <;> rfl),by repeat (first|(with_reducible first|exact HB.out|apply below_alloc|apply pw_below_drewN|apply below_drew1|refine below_set ?_ GE402.out|refine below_set ?_ GE432.out|refine below_set ?_ GE462.out)|exact HB.out)⟩
           ·rw [if_neg c125] at H
            have c125b0 : decide (t494 < 0) = false:=decide_eq_false c125
            clear c125
            by_cases c132 : t494 = t489
            ·rw [if_pos c132] at H
             have c132b0 : (t494 == t489) = true:=beq_iff_eq.mpr c132
             have c132b1 : (t494 != t489) = false:=bne_eq_false_iff_eq.mpr c132
             clear c132
             replace H:=Option.bind_eq_some_iff.mp H
             obtain ⟨⟨t495,t498,t501,t504⟩,A1330,H⟩:=H
             replace H : ((laws_toByteS.f kj86 l2).bind fun t507=>((impl_PutIn.f kj86 t495 t498 t501 t504 a1 t507).bind fun bt510=>((laws_eqSpace.f kj86 bt510.1 bt510.2.1 bt510.2.2.1 bt510.2.2.2.1 t419 t422 t425 t428).bind fun t524=>(if t524 = true then (laws_FnExactPutIn.j2 kj86 t489 (bt510.2.2.2.2 != t431) t490 t491 t492 t493) else (laws_FnExactPutIn.j2 kj86 t489 true t490 t491 t492 t493))))) = some r:=H
             have A133:=Aside0.mk A1330
             clear A1330
             replace H:=Option.bind_eq_some_iff.mp H
             obtain ⟨t507,A1340,H⟩:=H
             replace H : ((impl_PutIn.f kj86 t495 t498 t501 t504 a1 t507).bind fun bt510=>((laws_eqSpace.f kj86 bt510.1 bt510.2.1 bt510.2.2.1 bt510.2.2.2.1 t419 t422 t425 t428).bind fun t524=>(if t524 = true then (laws_FnExactPutIn.j2 kj86 t489 (bt510.2.2.2.2 != t431) t490 t491 t492 t493) else (laws_FnExactPutIn.j2 kj86 t489 true t490 t491 t492 t493)))) = some r:=H
             have A134:=Aside0.mk A1340
             clear A1340
             replace H:=Option.bind_eq_some_iff.mp H
             obtain ⟨⟨t510,t513,t516,t519,t522⟩,A1350,H⟩:=H
             replace H : ((laws_eqSpace.f kj86 t510 t513 t516 t519 t419 t422 t425 t428).bind fun t524=>(if t524 = true then (laws_FnExactPutIn.j2 kj86 t489 (t522 != t431) t490 t491 t492 t493) else (laws_FnExactPutIn.j2 kj86 t489 true t490 t491 t492 t493))) = some r:=H
             have A135:=Aside0.mk A1350
             clear A1350
             have HC136:=Aside0.mk H
             clear H
             have hnb137:=NB462_402.out
             have hnc137:=NB402_462.out
             have hnb138:=NB462_432.out
             have hnc138:=NB432_462.out
             have hcz139_0 : wc.cell? ⟨gb462,0,none⟩ = some (.slice Ao52 t449.length co52):=(blk_cell BK462.out 0).trans rfl
             have hcz139_1 : wc.cell? ⟨gb462,1,none⟩ = some (.slice Ao57 t452.length co57):=(blk_cell BK462.out 1).trans rfl
             have hcz139_2 : wc.cell? ⟨gb462,2,none⟩ = some (.slice Ao58 t455.length co58):=(blk_cell BK462.out 2).trans rfl
             have hcz139_3 : wc.cell? ⟨gb462,3,none⟩ = some (.slice Ao59 t458.length co59):=(blk_cell BK462.out 3).trans rfl
             have hfz139_0:=blk_frozen BK462.out 0
             have hfz139_1:=blk_frozen BK462.out 1
             have hfz139_2:=blk_frozen BK462.out 2
             have hfz139_3:=blk_frozen BK462.out 3
             go_upto_region 31 with (first|((with_reducible refine gate_callee (f:=20) rfl ?_);refine goesL_ (some 87) rfl rfl Try.func20 (by kernel_rfl) rfl #[.agg #[.slice Ao52 t449.length co52,.slice Ao57 t452.length co57,.slice Ao58 t455.length co58,.slice Ao59 t458.length co59],.int .i64 1] rfl (by (try simp only [List.map_toArray,List.map_cons,List.map_nil]);first|done|rfl) ?_;(with_reducible refine (laws_markSpace.calls kj86 (SB_ (Kd.slice 5 (Kd.int .u8)) 23 wc w.heap.size (fun k_=>(some k_ ≠ (.slice Ao31 t419.length co31 : Value).ownBlock∧(some k_ ≠ (.slice Ao34 t422.length co34 : Value).ownBlock∧(some k_ ≠ (.slice Ao57 t452.length co57 : Value).ownBlock∧(w47.heap.size ≤ k_∧k_ < w88.heap.size)))))) (.slice Ao52 t449.length co52) t449 (fun k_=>some k_ = (.slice Ao57 t452.length co57 : Value).ownBlock) (.slice Ao57 t452.length co57) t452 (fun k_=>some k_ = (.slice Ao58 t455.length co58 : Value).ownBlock) (.slice Ao58 t455.length co58) t455 (fun k_=>some k_ = (.slice Ao59 t458.length co59 : Value).ownBlock) (.slice Ao59 t458.length co59) t458 1 t489 t490 t491 t492 t493 w _ ?side1 ?side2 ?side3 ?side4 ?side5 ?side6 ?side7 ?side8 A123.out).mono ?_);(case side1=>repeat (first|(with_reducible first|exact HB.out|apply below_alloc|apply pw_below_drewN|apply below_drew1|refine below_set ?_ GE402.out|refine below_set ?_ GE432.out|refine below_set ?_ GE462.out)|exact HB.out));(case side2=>exact SB_own HO_463000.out);(case side3=>exact fun k_ h_ e_=>(h_.1.2.2.1) e_);(case side4=>exact Kd.R_tight rfl HO_463001.out);(case side5=>exact Kd.R_tight rfl HO_463002.out);(case side6=>exact fun k_ e_=>(HO_463002.out.1 k_ e_.symm).2.2);(case side7=>exact Kd.R_tight rfl HO_463003.out);(case side8=>exact fun k_ e_=>(HO_463003.out.1 k_ e_.symm).2.2);rintro e w140 ⟨rfl,hy0,hy1,hy2,hy3,hb,hkp⟩;refine ⟨_,rfl,?_⟩;replace HO_433000:=Aside0.mk (Kd.S_mono (ok':=fun k_=>some k_ ≠ (.slice Ao34 t422.length co34 : Value).ownBlock∧some k_ ≠ (.slice Ao52 t449.length co52 : Value).ownBlock∧some k_ ≠ (.slice Ao57 t452.length co57 : Value).ownBlock∧w23.heap.size ≤ k_∧k_ < w30.heap.size∧k_ < w47.heap.size∧k_ < w88.heap.size) (Kd.S_keptB ((Kd.S_apart' (Kd.S_apart' (S_apartSBn (d':=(Kd.slice 5 (Kd.int .u8))) (e':=23) (base':=w.heap.size) (ok':=(fun k_=>(some k_ ≠ (.slice Ao31 t419.length co31 : Value).ownBlock∧(some k_ ≠ (.slice Ao34 t422.length co34 : Value).ownBlock∧(some k_ ≠ (.slice Ao57 t452.length co57 : Value).ownBlock∧(w47.heap.size ≤ k_∧k_ < w88.heap.size)))))) HO_433000.out (fun k_ hk h2_=>absurd (hk.2.2.2.2.2.1) (Nat.not_lt.2 (h2_.2.2.2.1)))) (Kd.R_typed HO_463002.out) (by decide)) (Kd.R_typed HO_463003.out) (by decide))) hkp (fun k_ hk_ hs_=>Or.elim hs_ (fun e_=>(hk_.1.1.2) e_) (fun e_=>Or.elim e_ (fun e_=>(hk_.1.1.1.2.2.1) e_) (fun e_=>Or.elim e_ (fun e_=>(hk_.1.2) e_) (fun e_=>(hk_.2) e_))))) (fun k_ hk_=>⟨hk_.1.1.1.1.1,hk_.1.1.1.1.2.1,hk_.1.1.1.1.2.2.1,hk_.1.1.1.1.2.2.2.1,hk_.1.1.1.1.2.2.2.2.1,hk_.1.1.1.1.2.2.2.2.2.1,hk_.1.1.1.1.2.2.2.2.2.2⟩));replace HO_433001:=Aside0.mk (Kd.R_mono (ok':=fun k_=>some k_ ≠ (.slice Ao57 t452.length co57 : Value).ownBlock) (Kd.R_keptB ((Kd.R_apart' (Kd.R_apart' (R_apartSBo (d':=(Kd.slice 5 (Kd.int .u8))) (e':=23) (base':=w.heap.size) (ok':=(fun k_=>(some k_ ≠ (.slice Ao31 t419.length co31 : Value).ownBlock∧(some k_ ≠ (.slice Ao34 t422.length co34 : Value).ownBlock∧(some k_ ≠ (.slice Ao57 t452.length co57 : Value).ownBlock∧(w47.heap.size ≤ k_∧k_ < w88.heap.size)))))) rfl HO_433001.out (fun k_ hk=>hk.2.1)) (Kd.R_typed HO_463002.out) (by decide)) (Kd.R_typed HO_463003.out) (by decide))) hkp (fun k_ hk_ hs_=>Or.elim hs_ (fun e_=>(hk_.1.1.2) e_) (fun e_=>Or.elim e_ (fun e_=>(hk_.1.1.1) e_) (fun e_=>Or.elim e_ (fun e_=>(hk_.1.2) e_) (fun e_=>(hk_.2) e_))))) (fun k_ hk_=>hk_.1.1.1.1));replace HO_433002:=Aside0.mk (Kd.R_mono (ok':=fun k_=>some k_ ≠ (.slice Ao36 t428.length co36 : Value).ownBlock∧some k_ ≠ (.slice Ao58 t455.length co58 : Value).ownBlock∧some k_ ≠ (.slice Ao59 t458.length co59 : Value).ownBlock) (Kd.R_keptB ((Kd.R_apart' (R_apartSB (d':=(Kd.slice 5 (Kd.int .u8))) (e':=23) (base':=w.heap.size) (ok':=(fun k_=>(some k_ ≠ (.slice Ao31 t419.length co31 : Value).ownBlock∧(some k_ ≠ (.slice Ao34 t422.length co34 : Value).ownBlock∧(some k_ ≠ (.slice Ao57 t452.length co57 : Value).ownBlock∧(w47.heap.size ≤ k_∧k_ < w88.heap.size)))))) HO_433002.out (by decide)) (Kd.R_typed HO_463001.out) (by decide))) hkp (fun k_ hk_ hs_=>Or.elim hs_ (fun e_=>(hk_.1.2) e_) (fun e_=>Or.elim e_ (fun e_=>(hk_.2) e_) (fun e_=>Or.elim e_ (fun e_=>(hk_.1.1.2.1) e_) (fun e_=>(hk_.1.1.2.2) e_))))) (fun k_ hk_=>⟨hk_.1.1.1.1,hk_.1.1.1.2.1,hk_.1.1.1.2.2⟩));replace HO_433003:=Aside0.mk (Kd.R_mono (ok':=fun k_=>some k_ ≠ (.slice Ao35 t425.length co35 : Value).ownBlock∧some k_ ≠ (.slice Ao58 t455.length co58 : Value).ownBlock∧some k_ ≠ (.slice Ao59 t458.length co59 : Value).ownBlock) (Kd.R_keptB ((Kd.R_apart' (R_apartSB (d':=(Kd.slice 5 (Kd.int .u8))) (e':=23) (base':=w.heap.size) (ok':=(fun k_=>(some k_ ≠ (.slice Ao31 t419.length co31 : Value).ownBlock∧(some k_ ≠ (.slice Ao34 t422.length co34 : Value).ownBlock∧(some k_ ≠ (.slice Ao57 t452.length co57 : Value).ownBlock∧(w47.heap.size ≤ k_∧k_ < w88.heap.size)))))) HO_433003.out (by decide)) (Kd.R_typed HO_463001.out) (by decide))) hkp (fun k_ hk_ hs_=>Or.elim hs_ (fun e_=>(hk_.1.2) e_) (fun e_=>Or.elim e_ (fun e_=>(hk_.2) e_) (fun e_=>Or.elim e_ (fun e_=>(hk_.1.1.2.1) e_) (fun e_=>(hk_.1.1.2.2) e_))))) (fun k_ hk_=>⟨hk_.1.1.1.1,hk_.1.1.1.2.1,hk_.1.1.1.2.2⟩));replace HO_463000:=Aside0.mk (Kd.S_mono (ok':=fun k_=>True) hy0 (fun k_ h_=>trivial));replace BK402:=Aside0.mk (blk_kept (g:=gb402) (o:=.cells #[.slice A0_0 l0_0.length c0_0,.slice A0_1 l0_1.length c0_1,.slice A0_2 l0_2.length c0_2,.slice A0_3 l0_3.length c0_3] 26 (0,0)) BK402.out hkp (fun hs_=>Or.elim hs_ (fun e_=>(fun e_=>(blk_SB BK402.out (by decide)) e_) e_) (fun e_=>Or.elim e_ (fun e_=>(fun e_=>(Kd.R_ne HO_463001.out BK402.out (by decide)) e_) e_) (fun e_=>Or.elim e_ (fun e_=>(fun e_=>(Kd.R_ne HO_463002.out BK402.out (by decide)) e_) e_) (fun e_=>(fun e_=>(Kd.R_ne HO_463003.out BK402.out (by decide)) e_) e_)))));replace BK432:=Aside0.mk (blk_kept (g:=gb432) (o:=.cells #[.slice Ao31 t419.length co31,.slice Ao34 t422.length co34,.slice Ao35 t425.length co35,.slice Ao36 t428.length co36] 29 (0,0)) BK432.out hkp (fun hs_=>Or.elim hs_ (fun e_=>(fun e_=>(blk_SB BK432.out (by decide)) e_) e_) (fun e_=>Or.elim e_ (fun e_=>(fun e_=>(Kd.R_ne HO_463001.out BK432.out (by decide)) e_) e_) (fun e_=>Or.elim e_ (fun e_=>(fun e_=>(Kd.R_ne HO_463002.out BK432.out (by decide)) e_) e_) (fun e_=>(fun e_=>(Kd.R_ne HO_463003.out BK432.out (by decide)) e_) e_)))));replace BK462:=Aside0.mk (blk_kept (g:=gb462) (o:=.cells #[.slice Ao52 t449.length co52,.slice Ao57 t452.length co57,.slice Ao58 t455.length co58,.slice Ao59 t458.length co59] 29 (0,0)) BK462.out hkp (fun hs_=>Or.elim hs_ (fun e_=>(fun e_=>(blk_SB BK462.out (by decide)) e_) e_) (fun e_=>Or.elim e_ (fun e_=>(fun e_=>(Kd.R_ne HO_463001.out BK462.out (by decide)) e_) e_) (fun e_=>Or.elim e_ (fun e_=>(fun e_=>(Kd.R_ne HO_463002.out BK462.out (by decide)) e_) e_) (fun e_=>(fun e_=>(Kd.R_ne HO_463003.out BK462.out (by decide)) e_) e_)))));replace HO_463001:=Aside0.mk (Kd.R_reok rfl hy1 (fun k_ e_=>HO_463001.out.1 k_ e_));replace HO_463002:=Aside0.mk (Kd.R_reok rfl hy2 (fun k_ e_=>HO_463002.out.1 k_ e_));replace HO_463003:=Aside0.mk (Kd.R_reok rfl hy3 (fun k_ e_=>HO_463003.out.1 k_ e_));replace HB:=Aside0.mk (hb);clear hb hkp hy0 hy1 hy2 hy3;have hcz141_0 : w140.cell? ⟨gb462,0,none⟩ = some (.slice Ao52 t449.length co52):=(blk_cell BK462.out 0).trans rfl;have hcz141_1 : w140.cell? ⟨gb462,1,none⟩ = some (.slice Ao57 t452.length co57):=(blk_cell BK462.out 1).trans rfl;have hcz141_2 : w140.cell? ⟨gb462,2,none⟩ = some (.slice Ao58 t455.length co58):=(blk_cell BK462.out 2).trans rfl;have hcz141_3 : w140.cell? ⟨gb462,3,none⟩ = some (.slice Ao59 t458.length co59):=(blk_cell BK462.out 3).trans rfl;have hfz141_0:=blk_frozen BK462.out 0;have hfz141_1:=blk_frozen BK462.out 1;have hfz141_2:=blk_frozen BK462.out 2;have hfz141_3:=blk_frozen BK462.out 3)|((with_reducible refine gate_callee (f:=29) rfl ?_);refine goesL_ (some 90) rfl rfl Try.func29 (by kernel_rfl) rfl #[.agg #[.slice Ao52 t490.length co52,.slice Ao57 t491.length co57,.slice Ao58 t492.length co58,.slice Ao59 t493.length co59],.int .i64 1] rfl (by (try simp only [List.map_toArray,List.map_cons,List.map_nil]);first|done|(rw [show t490.length = t449.length from (Kd.S_reads' HO_463000.out).1.symm,show t491.length = t452.length from (Kd.R_reads' HO_463001.out).1.symm,show t492.length = t455.length from (Kd.R_reads' HO_463002.out).1.symm,show t493.length = t458.length from (Kd.R_reads' HO_463003.out).1.symm] <;> rfl)|rfl|(simp only [List.length_drop,List.length_take];rfl)) ?_;(with_reducible refine (laws_heldSpace.calls kj86 _ _ t490 _ _ t491 _ _ t492 _ _ t493 1 t494 _ ?side1 ?side2 ?side3 ?side4 ?side5 ?side6 ?side7 ?side8 A124.out).mono ?_);(case side1=>exact (Kd.S_reads' HO_463000.out).2.2);(case side2=>rw [show t490.length = t449.length from (Kd.S_reads' HO_463000.out).1.symm];exact (Kd.S_reads' HO_463000.out).2.1);(case side3=>exact (Kd.R_reads' HO_463001.out).2.2);(case side4=>rw [show t491.length = t452.length from (Kd.R_reads' HO_463001.out).1.symm];exact (Kd.R_reads' HO_463001.out).2.1);(case side5=>exact (Kd.R_reads' HO_463002.out).2.2);(case side6=>rw [show t492.length = t455.length from (Kd.R_reads' HO_463002.out).1.symm];exact (Kd.R_reads' HO_463002.out).2.1);(case side7=>exact (Kd.R_reads' HO_463003.out).2.2);(case side8=>rw [show t493.length = t458.length from (Kd.R_reads' HO_463003.out).1.symm];exact (Kd.R_reads' HO_463003.out).2.1);rintro e w142 ⟨rfl,hb⟩;refine ⟨_,rfl,?_⟩;replace HO_433000:=Aside0.mk (Kd.S_below HO_433000.out hb);replace HO_433001:=Aside0.mk (Kd.R_below HO_433001.out hb);replace HO_433002:=Aside0.mk (Kd.R_below HO_433002.out hb);replace HO_433003:=Aside0.mk (Kd.R_below HO_433003.out hb);replace HO_463000:=Aside0.mk (Kd.S_below HO_463000.out hb);replace HO_463001:=Aside0.mk (Kd.R_below HO_463001.out hb);replace HO_463002:=Aside0.mk (Kd.R_below HO_463002.out hb);replace HO_463003:=Aside0.mk (Kd.R_below HO_463003.out hb);replace BK402:=Aside0.mk (blk_below BK402.out hb);replace BK432:=Aside0.mk (blk_below BK432.out hb);replace BK462:=Aside0.mk (blk_below BK462.out hb);replace HB:=Aside0.mk (below_step HB.out hb);clear hb;have hnb143:=NB402_432.out;have hnc143:=NB432_402.out;have hcz144_0 : w142.cell? ⟨gb402,0,none⟩ = some (.slice A0_0 l0_0.length c0_0):=(blk_cell BK402.out 0).trans rfl;have hcz144_1 : w142.cell? ⟨gb402,1,none⟩ = some (.slice A0_1 l0_1.length c0_1):=(blk_cell BK402.out 1).trans rfl;have hcz144_2 : w142.cell? ⟨gb402,2,none⟩ = some (.slice A0_2 l0_2.length c0_2):=(blk_cell BK402.out 2).trans rfl;have hcz144_3 : w142.cell? ⟨gb402,3,none⟩ = some (.slice A0_3 l0_3.length c0_3):=(blk_cell BK402.out 3).trans rfl;have hfz144_0:=blk_frozen BK402.out 0;have hfz144_1:=blk_frozen BK402.out 1;have hfz144_2:=blk_frozen BK402.out 2;have hfz144_3:=blk_frozen BK402.out 3)|((with_reducible refine gate_callee (f:=12) rfl ?_);refine goesL_ (some 98) rfl rfl Try.func12 (by kernel_rfl) rfl #[.agg #[.slice A0_0 l0_0.length c0_0,.slice A0_1 l0_1.length c0_1,.slice A0_2 l0_2.length c0_2,.slice A0_3 l0_3.length c0_3]] rfl (by (try simp only [List.map_toArray,List.map_cons,List.map_nil]);first|done|rfl) ?_;(with_reducible refine (laws_toSpace.calls kj86 _ _ l0_0 _ _ l0_1 _ _ l0_2 _ _ l0_3 t495 t498 t501 t504 _ ?side1 ?side2 ?side3 ?side4 ?side5 ?side6 ?side7 ?side8 A133.out).mono ?_);(case side1=>exact (Kd.C_below HR0_0.out HB.out));(case side2=>exact HC0_0.out);(case side3=>exact (Kd.C_below HR0_1.out HB.out));(case side4=>exact HC0_1.out);(case side5=>exact (Kd.C_below HR0_2.out HB.out));(case side6=>exact HC0_2.out);(case side7=>exact (Kd.C_below HR0_3.out HB.out));(case side8=>exact HC0_3.out);rintro e w145 ⟨v496,v499,v502,v505,rfl,ho0,ho1,ho2,ho3,hb⟩;refine ⟨_,rfl,?_⟩;have HO497:=Aside0.mk (Kd.S_lower (Kd.S_new' (Kd.S_new' (Kd.S_new' (Kd.S_new' (Kd.S_mono (Kd.S_bound ho0) (fun k_ h_=>(⟨h_.1,(by first|exact h_.2.1|simpa only [World.size_setCell] using h_.2.1)⟩ : _∧w142.heap.size ≤ k_))) (Kd.S_lt HO_433000.out)) (Kd.R_lt HO_433001.out)) (Kd.S_lt HO_463000.out)) (Kd.R_lt HO_463001.out)) (below_size HB.out));have HO500:=Aside0.mk (Kd.R_lower (Kd.R_new' (Kd.R_new' ho1 (Kd.R_lt HO_433001.out)) (Kd.R_lt HO_463001.out)) (below_size HB.out));have HO503:=Aside0.mk (Kd.R_lower (Kd.R_new' (Kd.R_new' (Kd.R_new' (Kd.R_new' ho2 (Kd.R_lt HO_433002.out)) (Kd.R_lt HO_433003.out)) (Kd.R_lt HO_463002.out)) (Kd.R_lt HO_463003.out)) (below_size HB.out));have HO506:=Aside0.mk (Kd.R_lower (Kd.R_new' (Kd.R_new' (Kd.R_new' (Kd.R_new' ho3 (Kd.R_lt HO_433002.out)) (Kd.R_lt HO_433003.out)) (Kd.R_lt HO_463002.out)) (Kd.R_lt HO_463003.out)) (below_size HB.out));replace HO_433000:=Aside0.mk (Kd.S_told (Kd.S_told (Kd.S_old HO_433000.out hb) (Kd.S_base ho0)) (Kd.R_base ho1));replace HO_433001:=Aside0.mk (Kd.R_elder' HO_433001.out (Kd.R_base ho1) hb);replace HO_433002:=Aside0.mk (Kd.R_mono (Kd.R_told (Kd.R_told (Kd.R_old HO_433002.out hb) (Kd.R_base ho2)) (Kd.R_base ho3)) (fun _ h_=>h_.1));replace HO_433003:=Aside0.mk (Kd.R_mono (Kd.R_told (Kd.R_told (Kd.R_old HO_433003.out hb) (Kd.R_base ho2)) (Kd.R_base ho3)) (fun _ h_=>h_.1));replace HO_463000:=Aside0.mk (Kd.S_told (Kd.S_told (Kd.S_old HO_463000.out hb) (Kd.S_base ho0)) (Kd.R_base ho1));replace HO_463001:=Aside0.mk (Kd.R_elder' HO_463001.out (Kd.R_base ho1) hb);replace HO_463002:=Aside0.mk (Kd.R_mono (Kd.R_told (Kd.R_told (Kd.R_old HO_463002.out hb) (Kd.R_base ho2)) (Kd.R_base ho3)) (fun _ h_=>h_.1));replace HO_463003:=Aside0.mk (Kd.R_mono (Kd.R_told (Kd.R_told (Kd.R_old HO_463003.out hb) (Kd.R_base ho2)) (Kd.R_base ho3)) (fun _ h_=>h_.1));replace BK402:=Aside0.mk (blk_below BK402.out hb);replace BK432:=Aside0.mk (blk_below BK432.out hb);replace BK462:=Aside0.mk (blk_below BK462.out hb);replace HB:=Aside0.mk (below_step HB.out hb);clear hb ho0 ho1 ho2 ho3)|((with_reducible refine gate_callee (f:=31) rfl ?_);refine goesL_ (some 101) rfl rfl Try.func31 (by kernel_rfl) rfl #[.slice A2 l2.length c2] rfl (by (try simp only [List.map_toArray,List.map_cons,List.map_nil]);first|done|rfl) ?_;(with_reducible refine (laws_toByteS.calls kj86 _ _ l2 t507 _ ?side1 ?side2 A134.out).mono ?_);(case side1=>exact (Kd.C_below HR2.out HB.out));(case side2=>exact HC2.out);rintro e w146 ⟨v508,rfl,ho0,hb⟩;refine ⟨_,rfl,?_⟩;have HO509:=Aside0.mk (Kd.R_lower (Kd.R_new' (Kd.R_new' (Kd.R_new' ho0 (Kd.R_lt HO_433001.out)) (Kd.R_lt HO_463001.out)) (Kd.R_lt HO500.out)) (below_size HB.out));replace HO_433000:=Aside0.mk (Kd.S_elder' HO_433000.out (Kd.R_base ho0) hb);replace HO_433001:=Aside0.mk (Kd.R_elder' HO_433001.out (Kd.R_base ho0) hb);replace HO_433002:=Aside0.mk (Kd.R_below HO_433002.out hb);replace HO_433003:=Aside0.mk (Kd.R_below HO_433003.out hb);replace HO_463000:=Aside0.mk (Kd.S_elder' HO_463000.out (Kd.R_base ho0) hb);replace HO_463001:=Aside0.mk (Kd.R_elder' HO_463001.out (Kd.R_base ho0) hb);replace HO_463002:=Aside0.mk (Kd.R_below HO_463002.out hb);replace HO_463003:=Aside0.mk (Kd.R_below HO_463003.out hb);replace HO497:=Aside0.mk (Kd.S_elder' HO497.out (Kd.R_base ho0) hb);replace HO500:=Aside0.mk (Kd.R_elder' HO500.out (Kd.R_base ho0) hb);replace HO503:=Aside0.mk (Kd.R_below HO503.out hb);replace HO506:=Aside0.mk (Kd.R_below HO506.out hb);replace BK402:=Aside0.mk (blk_below BK402.out hb);replace BK432:=Aside0.mk (blk_below BK432.out hb);replace BK462:=Aside0.mk (blk_below BK462.out hb);replace HB:=Aside0.mk (below_step HB.out hb);clear hb ho0;obtain ⟨Ao147,co147,eo147⟩:=Kd.S_slice HO497.out;subst eo147;obtain ⟨Ao148,co148,eo148⟩:=Kd.R_slice HO500.out;subst eo148;obtain ⟨Ao149,co149,eo149⟩:=Kd.R_slice HO503.out;subst eo149;obtain ⟨Ao150,co150,eo150⟩:=Kd.R_slice HO506.out;subst eo150;obtain ⟨Ao151,co151,eo151⟩:=Kd.R_slice HO509.out;subst eo151)|((with_reducible refine gate_callee (f:=32) rfl ?_);refine goesL_ (some 102) rfl rfl Try.func32 (by kernel_rfl) rfl #[.agg #[.slice Ao147 t495.length co147,.slice Ao148 t498.length co148,.slice Ao149 t501.length co149,.slice Ao150 t504.length co150],.int .i64 a1,.slice Ao151 t507.length co151] rfl (by (try simp only [List.map_toArray,List.map_cons,List.map_nil]);first|done|rfl) ?_;(with_reducible refine (impl_PutIn.calls kj86 _ _ t495 _ _ t498 _ _ t501 _ _ t504 a1 _ _ t507 t510 t513 t516 t519 t522 _ ?side1 ?side2 ?side3 ?side4 ?side5 ?side6 ?side7 ?side8 ?side9 ?side10 A135.out).mono ?_);(case side1=>exact (Kd.S_reads' HO497.out).2.2);(case side2=>exact (Kd.S_reads' HO497.out).2.1);(case side3=>exact (Kd.R_reads' HO500.out).2.2);(case side4=>exact (Kd.R_reads' HO500.out).2.1);(case side5=>exact (Kd.R_reads' HO503.out).2.2);(case side6=>exact (Kd.R_reads' HO503.out).2.1);(case side7=>exact (Kd.R_reads' HO506.out).2.2);(case side8=>exact (Kd.R_reads' HO506.out).2.1);(case side9=>exact (Kd.R_reads' HO509.out).2.2);(case side10=>exact (Kd.R_reads' HO509.out).2.1);rintro e w152 ⟨v511,v514,v517,v520,rfl,ho0,ho1,ho2,ho3,hb⟩;refine ⟨_,rfl,?_⟩;have HO512:=Aside0.mk (Kd.S_lower (Kd.S_new' (Kd.S_new' (Kd.S_new' (Kd.S_new' (Kd.S_new' (Kd.S_new' (Kd.S_new' (Kd.S_mono (Kd.S_bound ho0) (fun k_ h_=>(⟨h_.1,(by first|exact h_.2.1|simpa only [World.size_setCell] using h_.2.1)⟩ : _∧w146.heap.size ≤ k_))) (Kd.S_lt HO_433000.out)) (Kd.R_lt HO_433001.out)) (Kd.S_lt HO_463000.out)) (Kd.R_lt HO_463001.out)) (Kd.S_lt HO497.out)) (Kd.R_lt HO500.out)) (Kd.R_lt HO509.out)) (below_size HB.out));have HO515:=Aside0.mk (Kd.R_lower (Kd.R_new' (Kd.R_new' (Kd.R_new' (Kd.R_new' ho1 (Kd.R_lt HO_433001.out)) (Kd.R_lt HO_463001.out)) (Kd.R_lt HO500.out)) (Kd.R_lt HO509.out)) (below_size HB.out));have HO518:=Aside0.mk (Kd.R_lower (Kd.R_new' (Kd.R_new' (Kd.R_new' (Kd.R_new' (Kd.R_new' (Kd.R_new' ho2 (Kd.R_lt HO_433002.out)) (Kd.R_lt HO_433003.out)) (Kd.R_lt HO_463002.out)) (Kd.R_lt HO_463003.out)) (Kd.R_lt HO503.out)) (Kd.R_lt HO506.out)) (below_size HB.out));have HO521:=Aside0.mk (Kd.R_lower (Kd.R_new' (Kd.R_new' (Kd.R_new' (Kd.R_new' (Kd.R_new' (Kd.R_new' ho3 (Kd.R_lt HO_433002.out)) (Kd.R_lt HO_433003.out)) (Kd.R_lt HO_463002.out)) (Kd.R_lt HO_463003.out)) (Kd.R_lt HO503.out)) (Kd.R_lt HO506.out)) (below_size HB.out));replace HO_433000:=Aside0.mk (Kd.S_told (Kd.S_told (Kd.S_old HO_433000.out hb) (Kd.S_base ho0)) (Kd.R_base ho1));replace HO_433001:=Aside0.mk (Kd.R_elder' HO_433001.out (Kd.R_base ho1) hb);replace HO_433002:=Aside0.mk (Kd.R_mono (Kd.R_told (Kd.R_told (Kd.R_old HO_433002.out hb) (Kd.R_base ho2)) (Kd.R_base ho3)) (fun _ h_=>h_.1));replace HO_433003:=Aside0.mk (Kd.R_mono (Kd.R_told (Kd.R_told (Kd.R_old HO_433003.out hb) (Kd.R_base ho2)) (Kd.R_base ho3)) (fun _ h_=>h_.1));replace HO_463000:=Aside0.mk (Kd.S_told (Kd.S_told (Kd.S_old HO_463000.out hb) (Kd.S_base ho0)) (Kd.R_base ho1));replace HO_463001:=Aside0.mk (Kd.R_elder' HO_463001.out (Kd.R_base ho1) hb);replace HO_463002:=Aside0.mk (Kd.R_mono (Kd.R_told (Kd.R_told (Kd.R_old HO_463002.out hb) (Kd.R_base ho2)) (Kd.R_base ho3)) (fun _ h_=>h_.1));replace HO_463003:=Aside0.mk (Kd.R_mono (Kd.R_told (Kd.R_told (Kd.R_old HO_463003.out hb) (Kd.R_base ho2)) (Kd.R_base ho3)) (fun _ h_=>h_.1));replace HO497:=Aside0.mk (Kd.S_told (Kd.S_told (Kd.S_old HO497.out hb) (Kd.S_base ho0)) (Kd.R_base ho1));replace HO500:=Aside0.mk (Kd.R_elder' HO500.out (Kd.R_base ho1) hb);replace HO503:=Aside0.mk (Kd.R_mono (Kd.R_told (Kd.R_told (Kd.R_old HO503.out hb) (Kd.R_base ho2)) (Kd.R_base ho3)) (fun _ h_=>h_.1));replace HO506:=Aside0.mk (Kd.R_mono (Kd.R_told (Kd.R_told (Kd.R_old HO506.out hb) (Kd.R_base ho2)) (Kd.R_base ho3)) (fun _ h_=>h_.1));replace HO509:=Aside0.mk (Kd.R_elder' HO509.out (Kd.R_base ho1) hb);replace BK402:=Aside0.mk (blk_below BK402.out hb);replace BK432:=Aside0.mk (blk_below BK432.out hb);replace BK462:=Aside0.mk (blk_below BK462.out hb);replace HB:=Aside0.mk (below_step HB.out hb);clear hb ho0 ho1 ho2 ho3)|((with_reducible refine gate_dst (N:=17) rfl ?_);refine box_event ?hg (N:=17) ?hd (cs:=#[.slice none 0 0,.slice none 0 0,.slice none 0 0,.slice none 0 0]) (t:=29) ?hr ?_;(case hd=>rfl);(case hg=>rfl);(case hr=>first|(go_simp;done)|(go_simp;rfl));intro gb523 hg w153 hbox hb;have BK523:=Aside0.mk (hbox);have GW523:=Aside0.mk ((by rw [hg];exact (below_size HB.out) : w.heap.size ≤ gb523));have GE523:=Aside0.mk ((by rw [hg];exact (below_size HB.out) : w.heap.size ≤ gb523));have NB402_523:=Aside0.mk ((by rw [hg];exact Nat.ne_of_lt (blk_lt (g:=gb402) (o:=.cells #[.slice A0_0 l0_0.length c0_0,.slice A0_1 l0_1.length c0_1,.slice A0_2 l0_2.length c0_2,.slice A0_3 l0_3.length c0_3] 26 (0,0)) BK402.out) : gb402 ≠ gb523));have NB523_402:=Aside0.mk ((by rw [hg];exact Nat.ne_of_gt (blk_lt (g:=gb402) (o:=.cells #[.slice A0_0 l0_0.length c0_0,.slice A0_1 l0_1.length c0_1,.slice A0_2 l0_2.length c0_2,.slice A0_3 l0_3.length c0_3] 26 (0,0)) BK402.out) : gb523 ≠ gb402));have NB432_523:=Aside0.mk ((by rw [hg];exact Nat.ne_of_lt (blk_lt (g:=gb432) (o:=.cells #[.slice Ao31 t419.length co31,.slice Ao34 t422.length co34,.slice Ao35 t425.length co35,.slice Ao36 t428.length co36] 29 (0,0)) BK432.out) : gb432 ≠ gb523));have NB523_432:=Aside0.mk ((by rw [hg];exact Nat.ne_of_gt (blk_lt (g:=gb432) (o:=.cells #[.slice Ao31 t419.length co31,.slice Ao34 t422.length co34,.slice Ao35 t425.length co35,.slice Ao36 t428.length co36] 29 (0,0)) BK432.out) : gb523 ≠ gb432));have NB462_523:=Aside0.mk ((by rw [hg];exact Nat.ne_of_lt (blk_lt (g:=gb462) (o:=.cells #[.slice Ao52 t449.length co52,.slice Ao57 t452.length co57,.slice Ao58 t455.length co58,.slice Ao59 t458.length co59] 29 (0,0)) BK462.out) : gb462 ≠ gb523));have NB523_462:=Aside0.mk ((by rw [hg];exact Nat.ne_of_gt (blk_lt (g:=gb462) (o:=.cells #[.slice Ao52 t449.length co52,.slice Ao57 t452.length co57,.slice Ao58 t455.length co58,.slice Ao59 t458.length co59] 29 (0,0)) BK462.out) : gb523 ≠ gb462));replace HO_433000:=Aside0.mk (Kd.S_below HO_433000.out hb);replace HO_433001:=Aside0.mk (Kd.R_below HO_433001.out hb);replace HO_433002:=Aside0.mk (Kd.R_below HO_433002.out hb);replace HO_433003:=Aside0.mk (Kd.R_below HO_433003.out hb);replace HO_463000:=Aside0.mk (Kd.S_below HO_463000.out hb);replace HO_463001:=Aside0.mk (Kd.R_below HO_463001.out hb);replace HO_463002:=Aside0.mk (Kd.R_below HO_463002.out hb);replace HO_463003:=Aside0.mk (Kd.R_below HO_463003.out hb);replace HO512:=Aside0.mk (Kd.S_below HO512.out hb);replace HO515:=Aside0.mk (Kd.R_below HO515.out hb);replace HO518:=Aside0.mk (Kd.R_below HO518.out hb);replace HO521:=Aside0.mk (Kd.R_below HO521.out hb);replace BK402:=Aside0.mk (blk_below BK402.out hb);replace BK432:=Aside0.mk (blk_below BK432.out hb);replace BK462:=Aside0.mk (blk_below BK462.out hb);replace HB:=Aside0.mk (below_step HB.out hb);clear HO497 HO500 HO503 HO506 HO509;clear hb hbox hg;obtain ⟨Ao154,co154,eo154⟩:=Kd.S_slice HO512.out;subst eo154;have hnb155:=NB523_402.out;have hnc155:=NB402_523.out;have hnb156:=NB523_432.out;have hnc156:=NB432_523.out;have hnb157:=NB523_462.out;have hnc157:=NB462_523.out;have hcz158_0 : w153.cell? ⟨gb523,0,none⟩ = some (.slice none 0 0):=(blk_cell BK523.out 0).trans rfl;have hcz158_1 : w153.cell? ⟨gb523,1,none⟩ = some (.slice none 0 0):=(blk_cell BK523.out 1).trans rfl;have hcz158_2 : w153.cell? ⟨gb523,2,none⟩ = some (.slice none 0 0):=(blk_cell BK523.out 2).trans rfl;have hcz158_3 : w153.cell? ⟨gb523,3,none⟩ = some (.slice none 0 0):=(blk_cell BK523.out 3).trans rfl;have hfz158_0:=blk_frozen BK523.out 0;have hfz158_1:=blk_frozen BK523.out 1;have hfz158_2:=blk_frozen BK523.out 2;have hfz158_3:=blk_frozen BK523.out 3;obtain ⟨Ao159,co159,eo159⟩:=Kd.R_slice HO515.out;subst eo159;obtain ⟨Ao160,co160,eo160⟩:=Kd.R_slice HO518.out;subst eo160;obtain ⟨Ao161,co161,eo161⟩:=Kd.R_slice HO521.out;subst eo161))
             (try simp only [Act.put,List.setIfInBounds_toArray,List.set_cons_zero,List.set_cons_succ])
             go_cut [113] (fun v113 wc=>∃ (kq : Nat) (x113_135 : Bool),v113 = .bool x113_135∧Aside0 (laws_FnExactPutIn.j2 kq t489 x113_135 t490 t491 t492 t493 = some r)∧Aside0 (kq ≤ kj86)∧Aside0 (Kd.S (Kd.slice 5 (Kd.int .u8)) 23 wc w.heap.size (fun k_=>some k_ ≠ ((.slice Ao34 t422.length co34) : Value).ownBlock∧some k_ ≠ ((.slice Ao52 t449.length co52) : Value).ownBlock∧some k_ ≠ ((.slice Ao57 t452.length co57) : Value).ownBlock∧some k_ ≠ ((.slice Ao154 t510.length co154) : Value).ownBlock∧some k_ ≠ ((.slice Ao159 t513.length co159) : Value).ownBlock∧w23.heap.size ≤ k_∧k_ < w30.heap.size∧k_ < w47.heap.size∧k_ < w88.heap.size∧k_ < w142.heap.size∧k_ < w146.heap.size) (.slice Ao31 t419.length co31) t419)∧Aside0 (Kd.R (Kd.int .u8) 5 wc w.heap.size (fun k_=>some k_ ≠ ((.slice Ao57 t452.length co57) : Value).ownBlock∧some k_ ≠ ((.slice Ao159 t513.length co159) : Value).ownBlock) (.slice Ao34 t422.length co34) t422)∧Aside0 (Kd.R (Kd.int .i64) 3 wc w.heap.size (fun k_=>some k_ ≠ ((.slice Ao36 t428.length co36) : Value).ownBlock∧some k_ ≠ ((.slice Ao58 t455.length co58) : Value).ownBlock∧some k_ ≠ ((.slice Ao59 t458.length co59) : Value).ownBlock∧some k_ ≠ ((.slice Ao160 t516.length co160) : Value).ownBlock∧some k_ ≠ ((.slice Ao161 t519.length co161) : Value).ownBlock) (.slice Ao35 t425.length co35) t425)∧Aside0 (Kd.R (Kd.int .i64) 3 wc w.heap.size (fun k_=>some k_ ≠ ((.slice Ao35 t425.length co35) : Value).ownBlock∧some k_ ≠ ((.slice Ao58 t455.length co58) : Value).ownBlock∧some k_ ≠ ((.slice Ao59 t458.length co59) : Value).ownBlock∧some k_ ≠ ((.slice Ao160 t516.length co160) : Value).ownBlock∧some k_ ≠ ((.slice Ao161 t519.length co161) : Value).ownBlock) (.slice Ao36 t428.length co36) t428)∧Aside0 (Kd.S (Kd.slice 5 (Kd.int .u8)) 23 wc w.heap.size (fun k_=>some k_ ≠ ((.slice Ao154 t510.length co154) : Value).ownBlock∧some k_ ≠ ((.slice Ao159 t513.length co159) : Value).ownBlock∧k_ < w142.heap.size∧k_ < w146.heap.size) (.slice Ao52 t449.length co52) t490)∧Aside0 (Kd.R (Kd.int .u8) 5 wc w.heap.size (fun k_=>some k_ ≠ ((.slice Ao34 t422.length co34) : Value).ownBlock∧some k_ ≠ ((.slice Ao159 t513.length co159) : Value).ownBlock) (.slice Ao57 t452.length co57) t491)∧Aside0 (Kd.R (Kd.int .i64) 3 wc w.heap.size (fun k_=>some k_ ≠ ((.slice Ao35 t425.length co35) : Value).ownBlock∧some k_ ≠ ((.slice Ao36 t428.length co36) : Value).ownBlock∧some k_ ≠ ((.slice Ao59 t458.length co59) : Value).ownBlock∧some k_ ≠ ((.slice Ao160 t516.length co160) : Value).ownBlock∧some k_ ≠ ((.slice Ao161 t519.length co161) : Value).ownBlock) (.slice Ao58 t455.length co58) t492)∧Aside0 (Kd.R (Kd.int .i64) 3 wc w.heap.size (fun k_=>some k_ ≠ ((.slice Ao35 t425.length co35) : Value).ownBlock∧some k_ ≠ ((.slice Ao36 t428.length co36) : Value).ownBlock∧some k_ ≠ ((.slice Ao58 t455.length co58) : Value).ownBlock∧some k_ ≠ ((.slice Ao160 t516.length co160) : Value).ownBlock∧some k_ ≠ ((.slice Ao161 t519.length co161) : Value).ownBlock) (.slice Ao59 t458.length co59) t493)∧Aside0 (Kd.S (Kd.slice 5 (Kd.int .u8)) 23 wc w.heap.size (fun k_=>some k_ ≠ ((.slice Ao31 t419.length co31) : Value).ownBlock∧some k_ ≠ ((.slice Ao34 t422.length co34) : Value).ownBlock∧some k_ ≠ ((.slice Ao52 t449.length co52) : Value).ownBlock∧some k_ ≠ ((.slice Ao57 t452.length co57) : Value).ownBlock∧some k_ ≠ ((.slice Ao159 t513.length co159) : Value).ownBlock∧w146.heap.size ≤ k_) (.slice Ao154 t510.length co154) t510)∧Aside0 (Kd.R (Kd.int .u8) 5 wc w.heap.size (fun k_=>some k_ ≠ ((.slice Ao34 t422.length co34) : Value).ownBlock∧some k_ ≠ ((.slice Ao57 t452.length co57) : Value).ownBlock) (.slice Ao159 t513.length co159) t513)∧Aside0 (Kd.R (Kd.int .i64) 3 wc w.heap.size (fun k_=>some k_ ≠ ((.slice Ao35 t425.length co35) : Value).ownBlock∧some k_ ≠ ((.slice Ao36 t428.length co36) : Value).ownBlock∧some k_ ≠ ((.slice Ao58 t455.length co58) : Value).ownBlock∧some k_ ≠ ((.slice Ao59 t458.length co59) : Value).ownBlock∧some k_ ≠ ((.slice Ao161 t519.length co161) : Value).ownBlock) (.slice Ao160 t516.length co160) t516)∧Aside0 (Kd.R (Kd.int .i64) 3 wc w.heap.size (fun k_=>some k_ ≠ ((.slice Ao35 t425.length co35) : Value).ownBlock∧some k_ ≠ ((.slice Ao36 t428.length co36) : Value).ownBlock∧some k_ ≠ ((.slice Ao58 t455.length co58) : Value).ownBlock∧some k_ ≠ ((.slice Ao59 t458.length co59) : Value).ownBlock∧some k_ ≠ ((.slice Ao160 t516.length co160) : Value).ownBlock) (.slice Ao161 t519.length co161) t519)∧Aside0 (wc.heap[gb402]? = some (.cells #[(.slice A0_0 l0_0.length c0_0),(.slice A0_1 l0_1.length c0_1),(.slice A0_2 l0_2.length c0_2),(.slice A0_3 l0_3.length c0_3)] 26 (0,0)))∧Aside0 (wc.heap[gb432]? = some (.cells #[(.slice Ao31 t419.length co31),(.slice Ao34 t422.length co34),(.slice Ao35 t425.length co35),(.slice Ao36 t428.length co36)] 29 (0,0)))∧Aside0 (wc.heap[gb462]? = some (.cells #[(.slice Ao52 t449.length co52),(.slice Ao57 t452.length co57),(.slice Ao58 t455.length co58),(.slice Ao59 t458.length co59)] 29 (0,0)))∧Aside0 (wc.heap[gb523]? = some (.cells #[(.slice Ao154 t510.length co154),(.slice Ao159 t513.length co159),(.slice Ao160 t516.length co160),(.slice Ao161 t519.length co161)] 29 (0,0)))∧Aside0 (Below w.heap.size w wc))
             case first =>
              have H:=HC136.out
              clear HC136
              replace H:=Option.bind_eq_some_iff.mp H
              obtain ⟨t524,A1620,H⟩:=H
              replace H : (if t524 = true then (laws_FnExactPutIn.j2 kj86 t489 (t522 != t431) t490 t491 t492 t493) else (laws_FnExactPutIn.j2 kj86 t489 true t490 t491 t492 t493)) = some r:=H
              have A162:=Aside0.mk A1620
              clear A1620
              by_cases c163 : t524 = true
              ·subst c163
               have H1 : (laws_FnExactPutIn.j2 kj86 t489 (t522 != t431) t490 t491 t492 t493) = some r:=by rw [if_pos rfl] at H;exact H
               clear H
               have H:=H1
               clear H1
               have H':=Aside0.mk H
               clear H
               have hnb164:=NB523_402.out
               have hnc164:=NB402_523.out
               have hnb165:=NB523_432.out
               have hnc165:=NB432_523.out
               have hnb166:=NB523_462.out
               have hnc166:=NB462_523.out
               have hcz167_0 : w153.cell? ⟨gb523,0,none⟩ = some (.slice none 0 0):=(blk_cell BK523.out 0).trans rfl
               have hcz167_1 : w153.cell? ⟨gb523,1,none⟩ = some (.slice none 0 0):=(blk_cell BK523.out 1).trans rfl
               have hcz167_2 : w153.cell? ⟨gb523,2,none⟩ = some (.slice none 0 0):=(blk_cell BK523.out 2).trans rfl
               have hcz167_3 : w153.cell? ⟨gb523,3,none⟩ = some (.slice none 0 0):=(blk_cell BK523.out 3).trans rfl
               have hfz167_0:=blk_frozen BK523.out 0
               have hfz167_1:=blk_frozen BK523.out 1
               have hfz167_2:=blk_frozen BK523.out 2
               have hfz167_3:=blk_frozen BK523.out 3
               have hnb168:=NB432_402.out
               have hnc168:=NB402_432.out
               have hnb169:=NB432_462.out
               have hnc169:=NB462_432.out
               have hcz170_0 : w153.cell? ⟨gb432,0,none⟩ = some (.slice Ao31 t419.length co31):=(blk_cell BK432.out 0).trans rfl
               have hcz170_1 : w153.cell? ⟨gb432,1,none⟩ = some (.slice Ao34 t422.length co34):=(blk_cell BK432.out 1).trans rfl
               have hcz170_2 : w153.cell? ⟨gb432,2,none⟩ = some (.slice Ao35 t425.length co35):=(blk_cell BK432.out 2).trans rfl
               have hcz170_3 : w153.cell? ⟨gb432,3,none⟩ = some (.slice Ao36 t428.length co36):=(blk_cell BK432.out 3).trans rfl
               have hfz170_0:=blk_frozen BK432.out 0
               have hfz170_1:=blk_frozen BK432.out 1
               have hfz170_2:=blk_frozen BK432.out 2
               have hfz170_3:=blk_frozen BK432.out 3
               go_wp2_with (first|((with_reducible refine gate_callee (f:=14) rfl ?_);refine goesL_ (some 107) rfl rfl Try.func14 (by kernel_rfl) rfl #[.agg #[.slice Ao154 t510.length co154,.slice Ao159 t513.length co159,.slice Ao160 t516.length co160,.slice Ao161 t519.length co161],.agg #[.slice Ao31 t419.length co31,.slice Ao34 t422.length co34,.slice Ao35 t425.length co35,.slice Ao36 t428.length co36]] rfl (by (try simp only [List.map_toArray,List.map_cons,List.map_nil]);first|done|rfl) ?_;(with_reducible refine (laws_eqSpace.calls kj86 _ _ t510 _ _ t513 _ _ t516 _ _ t519 _ _ t419 _ _ t422 _ _ t425 _ _ t428 true _ ?side1 ?side2 ?side3 ?side4 ?side5 ?side6 ?side7 ?side8 ?side9 ?side10 ?side11 ?side12 ?side13 ?side14 ?side15 ?side16 A162.out).mono ?_);(case side1=>refine (Kd.S_reads' (e:=23) (base:=w.heap.size) (ok:=fun k_=>(some k_ ≠ (.slice Ao159 t513.length co159 : Value).ownBlock∧(w146.heap.size ≤ k_∧(some k_ ≠ (.slice Ao31 t419.length co31 : Value).ownBlock∧(some k_ ≠ (.slice Ao34 t422.length co34 : Value).ownBlock∧(some k_ ≠ (.slice Ao52 t449.length co52 : Value).ownBlock∧some k_ ≠ (.slice Ao57 t452.length co57 : Value).ownBlock)))))) (n:=t510.length) (c:=co154) ?_).2.2;exact (by exact Kd.S_mono (S_far4n HO512.out BK523.out (by decide)) (fun _ hk=>⟨hk.1.1.1.1.1.1.1.1.1,⟨hk.1.1.1.1.1.1.1.1.2,⟨hk.1.1.1.1.1.1.1.2,⟨hk.1.1.1.1.1.1.2,⟨hk.1.1.1.1.1.2,hk.1.1.1.1.2⟩⟩⟩⟩⟩)));(case side2=>exact (Kd.S_reads' HO512.out).2.1);(case side3=>refine (Kd.R_reads' (e:=5) (base:=w.heap.size) (ok:=fun k_=>(some k_ ≠ (.slice Ao34 t422.length co34 : Value).ownBlock∧some k_ ≠ (.slice Ao57 t452.length co57 : Value).ownBlock)) (n:=t513.length) (c:=co159) ?_).2.2;exact (by exact Kd.R_mono (R_far4n HO515.out BK523.out (by decide)) (fun _ hk=>⟨hk.1.1.1.1.2,hk.1.1.1.2⟩)));(case side4=>exact (Kd.R_reads' HO515.out).2.1);(case side5=>refine (Kd.R_reads' (e:=3) (base:=w.heap.size) (ok:=fun k_=>(some k_ ≠ (.slice Ao161 t519.length co161 : Value).ownBlock∧(some k_ ≠ (.slice Ao35 t425.length co35 : Value).ownBlock∧(some k_ ≠ (.slice Ao36 t428.length co36 : Value).ownBlock∧(some k_ ≠ (.slice Ao58 t455.length co58 : Value).ownBlock∧some k_ ≠ (.slice Ao59 t458.length co59 : Value).ownBlock))))) (n:=t516.length) (c:=co160) ?_).2.2;exact (by exact Kd.R_mono (R_far4n HO518.out BK523.out (by decide)) (fun _ hk=>⟨hk.1.1.1.1.1.1.1,⟨hk.1.1.1.1.1.1.2,⟨hk.1.1.1.1.1.2,⟨hk.1.1.1.1.2,hk.1.1.1.2⟩⟩⟩⟩)));(case side6=>exact (Kd.R_reads' HO518.out).2.1);(case side7=>refine (Kd.R_reads' (e:=3) (base:=w.heap.size) (ok:=fun k_=>(some k_ ≠ (.slice Ao160 t516.length co160 : Value).ownBlock∧(some k_ ≠ (.slice Ao35 t425.length co35 : Value).ownBlock∧(some k_ ≠ (.slice Ao36 t428.length co36 : Value).ownBlock∧(some k_ ≠ (.slice Ao58 t455.length co58 : Value).ownBlock∧some k_ ≠ (.slice Ao59 t458.length co59 : Value).ownBlock))))) (n:=t519.length) (c:=co161) ?_).2.2;exact (by exact Kd.R_mono (R_far4n HO521.out BK523.out (by decide)) (fun _ hk=>⟨hk.1.1.1.1.1.1.1,⟨hk.1.1.1.1.1.1.2,⟨hk.1.1.1.1.1.2,⟨hk.1.1.1.1.2,hk.1.1.1.2⟩⟩⟩⟩)));(case side8=>exact (Kd.R_reads' HO521.out).2.1);(case side9=>refine (Kd.S_reads' (e:=23) (base:=w.heap.size) (ok:=fun k_=>(some k_ ≠ (.slice Ao34 t422.length co34 : Value).ownBlock∧(some k_ ≠ (.slice Ao52 t449.length co52 : Value).ownBlock∧(some k_ ≠ (.slice Ao57 t452.length co57 : Value).ownBlock∧(w23.heap.size ≤ k_∧(k_ < w30.heap.size∧(k_ < w47.heap.size∧(k_ < w88.heap.size∧(k_ < w142.heap.size∧(some k_ ≠ (.slice Ao154 t510.length co154 : Value).ownBlock∧(some k_ ≠ (.slice Ao159 t513.length co159 : Value).ownBlock∧k_ < w146.heap.size))))))))))) (n:=t419.length) (c:=co31) ?_).2.2;exact (by exact Kd.S_mono (S_far4n HO_433000.out BK523.out (by decide)) (fun _ hk=>⟨hk.1.1.1.1.1.1.1.1.1,⟨hk.1.1.1.1.1.1.1.1.2.1,⟨hk.1.1.1.1.1.1.1.1.2.2.1,⟨hk.1.1.1.1.1.1.1.1.2.2.2.1,⟨hk.1.1.1.1.1.1.1.1.2.2.2.2.1,⟨hk.1.1.1.1.1.1.1.1.2.2.2.2.2.1,⟨hk.1.1.1.1.1.1.1.1.2.2.2.2.2.2,⟨hk.1.1.1.1.1.2,⟨hk.1.1.1.2,⟨hk.1.1.2,hk.1.2⟩⟩⟩⟩⟩⟩⟩⟩⟩⟩)));(case side10=>exact (Kd.S_reads' HO_433000.out).2.1);(case side11=>refine (Kd.R_reads' (e:=5) (base:=w.heap.size) (ok:=fun k_=>(some k_ ≠ (.slice Ao57 t452.length co57 : Value).ownBlock∧some k_ ≠ (.slice Ao159 t513.length co159 : Value).ownBlock)) (n:=t422.length) (c:=co34) ?_).2.2;exact (by exact Kd.R_mono (R_far4n HO_433001.out BK523.out (by decide)) (fun _ hk=>⟨hk.1.1.1.1,hk.1.2⟩)));(case side12=>exact (Kd.R_reads' HO_433001.out).2.1);(case side13=>refine (Kd.R_reads' (e:=3) (base:=w.heap.size) (ok:=fun k_=>(some k_ ≠ (.slice Ao36 t428.length co36 : Value).ownBlock∧(some k_ ≠ (.slice Ao58 t455.length co58 : Value).ownBlock∧(some k_ ≠ (.slice Ao59 t458.length co59 : Value).ownBlock∧(some k_ ≠ (.slice Ao160 t516.length co160 : Value).ownBlock∧some k_ ≠ (.slice Ao161 t519.length co161 : Value).ownBlock))))) (n:=t425.length) (c:=co35) ?_).2.2;exact (by exact Kd.R_mono (R_far4n HO_433002.out BK523.out (by decide)) (fun _ hk=>⟨hk.1.1.1.1.1.1,⟨hk.1.1.1.1.1.2.1,⟨hk.1.1.1.1.1.2.2,⟨hk.1.1.2,hk.1.2⟩⟩⟩⟩)));(case side14=>exact (Kd.R_reads' HO_433002.out).2.1);(case side15=>refine (Kd.R_reads' (e:=3) (base:=w.heap.size) (ok:=fun k_=>(some k_ ≠ (.slice Ao35 t425.length co35 : Value).ownBlock∧(some k_ ≠ (.slice Ao58 t455.length co58 : Value).ownBlock∧(some k_ ≠ (.slice Ao59 t458.length co59 : Value).ownBlock∧(some k_ ≠ (.slice Ao160 t516.length co160 : Value).ownBlock∧some k_ ≠ (.slice Ao161 t519.length co161 : Value).ownBlock))))) (n:=t428.length) (c:=co36) ?_).2.2;exact (by exact Kd.R_mono (R_far4n HO_433003.out BK523.out (by decide)) (fun _ hk=>⟨hk.1.1.1.1.1.1,⟨hk.1.1.1.1.1.2.1,⟨hk.1.1.1.1.1.2.2,⟨hk.1.1.2,hk.1.2⟩⟩⟩⟩)));(case side16=>exact (Kd.R_reads' HO_433003.out).2.1);rintro e w171 ⟨rfl,hb⟩;refine ⟨_,rfl,?_⟩;replace HO_433000:=Aside0.mk (Kd.S_below (S_far4 HO_433000.out BK523.out (by decide)) hb);replace HO_433001:=Aside0.mk (Kd.R_below (R_far4 HO_433001.out BK523.out (by decide)) hb);replace HO_433002:=Aside0.mk (Kd.R_below (R_far4 HO_433002.out BK523.out (by decide)) hb);replace HO_433003:=Aside0.mk (Kd.R_below (R_far4 HO_433003.out BK523.out (by decide)) hb);replace HO_463000:=Aside0.mk (Kd.S_below (S_far4 HO_463000.out BK523.out (by decide)) hb);replace HO_463001:=Aside0.mk (Kd.R_below (R_far4 HO_463001.out BK523.out (by decide)) hb);replace HO_463002:=Aside0.mk (Kd.R_below (R_far4 HO_463002.out BK523.out (by decide)) hb);replace HO_463003:=Aside0.mk (Kd.R_below (R_far4 HO_463003.out BK523.out (by decide)) hb);replace HO512:=Aside0.mk (Kd.S_below (S_far4 HO512.out BK523.out (by decide)) hb);replace HO515:=Aside0.mk (Kd.R_below (R_far4 HO515.out BK523.out (by decide)) hb);replace HO518:=Aside0.mk (Kd.R_below (R_far4 HO518.out BK523.out (by decide)) hb);replace HO521:=Aside0.mk (Kd.R_below (R_far4 HO521.out BK523.out (by decide)) hb);replace BK402:=Aside0.mk (blk_below (g:=gb402) (o:=.cells #[.slice A0_0 l0_0.length c0_0,.slice A0_1 l0_1.length c0_1,.slice A0_2 l0_2.length c0_2,.slice A0_3 l0_3.length c0_3] 26 (0,0)) (by refine blk_far ?_ NB402_523.out _;refine blk_far ?_ NB402_523.out _;refine blk_far ?_ NB402_523.out _;refine blk_far ?_ NB402_523.out _;exact BK402.out) hb);replace BK432:=Aside0.mk (blk_below (g:=gb432) (o:=.cells #[.slice Ao31 t419.length co31,.slice Ao34 t422.length co34,.slice Ao35 t425.length co35,.slice Ao36 t428.length co36] 29 (0,0)) (by refine blk_far ?_ NB432_523.out _;refine blk_far ?_ NB432_523.out _;refine blk_far ?_ NB432_523.out _;refine blk_far ?_ NB432_523.out _;exact BK432.out) hb);replace BK462:=Aside0.mk (blk_below (g:=gb462) (o:=.cells #[.slice Ao52 t449.length co52,.slice Ao57 t452.length co57,.slice Ao58 t455.length co58,.slice Ao59 t458.length co59] 29 (0,0)) (by refine blk_far ?_ NB462_523.out _;refine blk_far ?_ NB462_523.out _;refine blk_far ?_ NB462_523.out _;refine blk_far ?_ NB462_523.out _;exact BK462.out) hb);replace BK523:=Aside0.mk (blk_below (g:=gb523) (o:=.cells #[.slice Ao154 t510.length co154,.slice Ao159 t513.length co159,.slice Ao160 t516.length co160,.slice Ao161 t519.length co161] 29 (0,0)) (by refine blk_put (cs:=#[.slice Ao154 t510.length co154,.slice Ao159 t513.length co159,.slice Ao160 t516.length co160,.slice none 0 0]) ?_ 3 _ rfl;refine blk_put (cs:=#[.slice Ao154 t510.length co154,.slice Ao159 t513.length co159,.slice none 0 0,.slice none 0 0]) ?_ 2 _ rfl;refine blk_put (cs:=#[.slice Ao154 t510.length co154,.slice none 0 0,.slice none 0 0,.slice none 0 0]) ?_ 1 _ rfl;refine blk_put (cs:=#[.slice none 0 0,.slice none 0 0,.slice none 0 0,.slice none 0 0]) ?_ 0 _ rfl;exact BK523.out) hb);replace HB:=Aside0.mk (below_step (by repeat (first|(with_reducible first|exact HB.out|apply below_alloc|apply pw_below_drewN|apply below_drew1|refine below_set ?_ GE402.out|refine below_set ?_ GE432.out|refine below_set ?_ GE462.out|refine below_set ?_ GE523.out)|exact HB.out)) hb);clear hb))
               go_meet
               case rel=>exact ⟨_,((t522 != t431)),(by first|rfl|(simp;done)|(simp [*];done)),H',⟨by have:=HJ16.out;have:=HJ86.out;first|omega|exact Nat.le_refl _⟩,⟨by exact Kd.S_mono HO_433000.out (fun _ hk=>⟨hk.1.1.1.1.1.1.1.1,⟨hk.1.1.1.1.1.1.1.2.1,⟨hk.1.1.1.1.1.1.1.2.2.1,⟨hk.1.1.2,⟨hk.1.2,⟨hk.1.1.1.1.1.1.1.2.2.2.1,⟨hk.1.1.1.1.1.1.1.2.2.2.2.1,⟨hk.1.1.1.1.1.1.1.2.2.2.2.2.1,⟨hk.1.1.1.1.1.1.1.2.2.2.2.2.2,⟨hk.1.1.1.1.2,hk.2⟩⟩⟩⟩⟩⟩⟩⟩⟩⟩)⟩,⟨by exact Kd.R_mono HO_433001.out (fun _ hk=>⟨hk.1.1.1,hk.2⟩)⟩,⟨by exact Kd.R_mono HO_433002.out (fun _ hk=>⟨hk.1.1.1.1.1,⟨hk.1.1.1.1.2.1,⟨hk.1.1.1.1.2.2,⟨hk.1.2,hk.2⟩⟩⟩⟩)⟩,⟨by exact Kd.R_mono HO_433003.out (fun _ hk=>⟨hk.1.1.1.1.1,⟨hk.1.1.1.1.2.1,⟨hk.1.1.1.1.2.2,⟨hk.1.2,hk.2⟩⟩⟩⟩)⟩,⟨by exact Kd.S_mono HO_463000.out (fun _ hk=>⟨hk.1.1.2,⟨hk.1.2,⟨hk.1.1.1.1.2,hk.2⟩⟩⟩)⟩,⟨by exact Kd.R_mono HO_463001.out (fun _ hk=>⟨hk.1.1.1,hk.2⟩)⟩,⟨by exact Kd.R_mono HO_463002.out (fun _ hk=>⟨hk.1.1.1.1.1,⟨hk.1.1.1.1.2.1,⟨hk.1.1.1.1.2.2,⟨hk.1.2,hk.2⟩⟩⟩⟩)⟩,⟨by exact Kd.R_mono HO_463003.out (fun _ hk=>⟨hk.1.1.1.1.1,⟨hk.1.1.1.1.2.1,⟨hk.1.1.1.1.2.2,⟨hk.1.2,hk.2⟩⟩⟩⟩)⟩,⟨by exact Kd.S_mono HO512.out (fun _ hk=>⟨hk.1.1.1.1.1.1.2,⟨hk.1.1.1.1.1.2,⟨hk.1.1.1.1.2,⟨hk.1.1.1.2,⟨hk.1.1.1.1.1.1.1.1,hk.1.1.1.1.1.1.1.2⟩⟩⟩⟩⟩)⟩,⟨by exact Kd.R_mono HO515.out (fun _ hk=>⟨hk.1.1.1.2,hk.1.1.2⟩)⟩,⟨by exact Kd.R_mono HO518.out (fun _ hk=>⟨hk.1.1.1.1.1.2,⟨hk.1.1.1.1.2,⟨hk.1.1.1.2,⟨hk.1.1.2,hk.1.1.1.1.1.1⟩⟩⟩⟩)⟩,⟨by exact Kd.R_mono HO521.out (fun _ hk=>⟨hk.1.1.1.1.1.2,⟨hk.1.1.1.1.2,⟨hk.1.1.1.2,⟨hk.1.1.2,hk.1.1.1.1.1.1⟩⟩⟩⟩)⟩,⟨by exact BK402.out⟩,⟨by exact BK432.out⟩,⟨by exact BK462.out⟩,⟨by exact BK523.out⟩,⟨by repeat (first|(with_reducible first|exact HB.out|apply below_alloc|apply pw_below_drewN|apply below_drew1|refine below_set ?_ GE402.out|refine below_set ?_ GE432.out|refine below_set ?_ GE462.out|refine below_set ?_ GE523.out)|exact HB.out)⟩⟩
              ·replace c163:=Bool.eq_false_iff.mpr c163
               subst c163
               have H1 : (laws_FnExactPutIn.j2 kj86 t489 true t490 t491 t492 t493) = some r:=by rw [if_neg (show ¬ (false = true) by decide)] at H;exact H
               clear H
               have H:=H1
               clear H1
               have H':=Aside0.mk H
               clear H
               have hnb172:=NB523_402.out
               have hnc172:=NB402_523.out
               have hnb173:=NB523_432.out
               have hnc173:=NB432_523.out
               have hnb174:=NB523_462.out
               have hnc174:=NB462_523.out
               have hcz175_0 : w153.cell? ⟨gb523,0,none⟩ = some (.slice none 0 0):=(blk_cell BK523.out 0).trans rfl
               have hcz175_1 : w153.cell? ⟨gb523,1,none⟩ = some (.slice none 0 0):=(blk_cell BK523.out 1).trans rfl
               have hcz175_2 : w153.cell? ⟨gb523,2,none⟩ = some (.slice none 0 0):=(blk_cell BK523.out 2).trans rfl
               have hcz175_3 : w153.cell? ⟨gb523,3,none⟩ = some (.slice none 0 0):=(blk_cell BK523.out 3).trans rfl
               have hfz175_0:=blk_frozen BK523.out 0
               have hfz175_1:=blk_frozen BK523.out 1
               have hfz175_2:=blk_frozen BK523.out 2
               have hfz175_3:=blk_frozen BK523.out 3
               have hnb176:=NB432_402.out
               have hnc176:=NB402_432.out
               have hnb177:=NB432_462.out
               have hnc177:=NB462_432.out
               have hcz178_0 : w153.cell? ⟨gb432,0,none⟩ = some (.slice Ao31 t419.length co31):=(blk_cell BK432.out 0).trans rfl
               have hcz178_1 : w153.cell? ⟨gb432,1,none⟩ = some (.slice Ao34 t422.length co34):=(blk_cell BK432.out 1).trans rfl
               have hcz178_2 : w153.cell? ⟨gb432,2,none⟩ = some (.slice Ao35 t425.length co35):=(blk_cell BK432.out 2).trans rfl
               have hcz178_3 : w153.cell? ⟨gb432,3,none⟩ = some (.slice Ao36 t428.length co36):=(blk_cell BK432.out 3).trans rfl
               have hfz178_0:=blk_frozen BK432.out 0
               have hfz178_1:=blk_frozen BK432.out 1
               have hfz178_2:=blk_frozen BK432.out 2
               have hfz178_3:=blk_frozen BK432.out 3
               go_wp2_with (first|((with_reducible refine gate_callee (f:=14) rfl ?_);refine goesL_ (some 107) rfl rfl Try.func14 (by kernel_rfl) rfl #[.agg #[.slice Ao154 t510.length co154,.slice Ao159 t513.length co159,.slice Ao160 t516.length co160,.slice Ao161 t519.length co161],.agg #[.slice Ao31 t419.length co31,.slice Ao34 t422.length co34,.slice Ao35 t425.length co35,.slice Ao36 t428.length co36]] rfl (by (try simp only [List.map_toArray,List.map_cons,List.map_nil]);first|done|rfl) ?_;(with_reducible refine (laws_eqSpace.calls kj86 _ _ t510 _ _ t513 _ _ t516 _ _ t519 _ _ t419 _ _ t422 _ _ t425 _ _ t428 false _ ?side1 ?side2 ?side3 ?side4 ?side5 ?side6 ?side7 ?side8 ?side9 ?side10 ?side11 ?side12 ?side13 ?side14 ?side15 ?side16 A162.out).mono ?_);(case side1=>refine (Kd.S_reads' (e:=23) (base:=w.heap.size) (ok:=fun k_=>(some k_ ≠ (.slice Ao159 t513.length co159 : Value).ownBlock∧(w146.heap.size ≤ k_∧(some k_ ≠ (.slice Ao31 t419.length co31 : Value).ownBlock∧(some k_ ≠ (.slice Ao34 t422.length co34 : Value).ownBlock∧(some k_ ≠ (.slice Ao52 t449.length co52 : Value).ownBlock∧some k_ ≠ (.slice Ao57 t452.length co57 : Value).ownBlock)))))) (n:=t510.length) (c:=co154) ?_).2.2;exact (by exact Kd.S_mono (S_far4n HO512.out BK523.out (by decide)) (fun _ hk=>⟨hk.1.1.1.1.1.1.1.1.1,⟨hk.1.1.1.1.1.1.1.1.2,⟨hk.1.1.1.1.1.1.1.2,⟨hk.1.1.1.1.1.1.2,⟨hk.1.1.1.1.1.2,hk.1.1.1.1.2⟩⟩⟩⟩⟩)));(case side2=>exact (Kd.S_reads' HO512.out).2.1);(case side3=>refine (Kd.R_reads' (e:=5) (base:=w.heap.size) (ok:=fun k_=>(some k_ ≠ (.slice Ao34 t422.length co34 : Value).ownBlock∧some k_ ≠ (.slice Ao57 t452.length co57 : Value).ownBlock)) (n:=t513.length) (c:=co159) ?_).2.2;exact (by exact Kd.R_mono (R_far4n HO515.out BK523.out (by decide)) (fun _ hk=>⟨hk.1.1.1.1.2,hk.1.1.1.2⟩)));(case side4=>exact (Kd.R_reads' HO515.out).2.1);(case side5=>refine (Kd.R_reads' (e:=3) (base:=w.heap.size) (ok:=fun k_=>(some k_ ≠ (.slice Ao161 t519.length co161 : Value).ownBlock∧(some k_ ≠ (.slice Ao35 t425.length co35 : Value).ownBlock∧(some k_ ≠ (.slice Ao36 t428.length co36 : Value).ownBlock∧(some k_ ≠ (.slice Ao58 t455.length co58 : Value).ownBlock∧some k_ ≠ (.slice Ao59 t458.length co59 : Value).ownBlock))))) (n:=t516.length) (c:=co160) ?_).2.2;exact (by exact Kd.R_mono (R_far4n HO518.out BK523.out (by decide)) (fun _ hk=>⟨hk.1.1.1.1.1.1.1,⟨hk.1.1.1.1.1.1.2,⟨hk.1.1.1.1.1.2,⟨hk.1.1.1.1.2,hk.1.1.1.2⟩⟩⟩⟩)));(case side6=>exact (Kd.R_reads' HO518.out).2.1);(case side7=>refine (Kd.R_reads' (e:=3) (base:=w.heap.size) (ok:=fun k_=>(some k_ ≠ (.slice Ao160 t516.length co160 : Value).ownBlock∧(some k_ ≠ (.slice Ao35 t425.length co35 : Value).ownBlock∧(some k_ ≠ (.slice Ao36 t428.length co36 : Value).ownBlock∧(some k_ ≠ (.slice Ao58 t455.length co58 : Value).ownBlock∧some k_ ≠ (.slice Ao59 t458.length co59 : Value).ownBlock))))) (n:=t519.length) (c:=co161) ?_).2.2;exact (by exact Kd.R_mono (R_far4n HO521.out BK523.out (by decide)) (fun _ hk=>⟨hk.1.1.1.1.1.1.1,⟨hk.1.1.1.1.1.1.2,⟨hk.1.1.1.1.1.2,⟨hk.1.1.1.1.2,hk.1.1.1.2⟩⟩⟩⟩)));(case side8=>exact (Kd.R_reads' HO521.out).2.1);(case side9=>refine (Kd.S_reads' (e:=23) (base:=w.heap.size) (ok:=fun k_=>(some k_ ≠ (.slice Ao34 t422.length co34 : Value).ownBlock∧(some k_ ≠ (.slice Ao52 t449.length co52 : Value).ownBlock∧(some k_ ≠ (.slice Ao57 t452.length co57 : Value).ownBlock∧(w23.heap.size ≤ k_∧(k_ < w30.heap.size∧(k_ < w47.heap.size∧(k_ < w88.heap.size∧(k_ < w142.heap.size∧(some k_ ≠ (.slice Ao154 t510.length co154 : Value).ownBlock∧(some k_ ≠ (.slice Ao159 t513.length co159 : Value).ownBlock∧k_ < w146.heap.size))))))))))) (n:=t419.length) (c:=co31) ?_).2.2;exact (by exact Kd.S_mono (S_far4n HO_433000.out BK523.out (by decide)) (fun _ hk=>⟨hk.1.1.1.1.1.1.1.1.1,⟨hk.1.1.1.1.1.1.1.1.2.1,⟨hk.1.1.1.1.1.1.1.1.2.2.1,⟨hk.1.1.1.1.1.1.1.1.2.2.2.1,⟨hk.1.1.1.1.1.1.1.1.2.2.2.2.1,⟨hk.1.1.1.1.1.1.1.1.2.2.2.2.2.1,⟨hk.1.1.1.1.1.1.1.1.2.2.2.2.2.2,⟨hk.1.1.1.1.1.2,⟨hk.1.1.1.2,⟨hk.1.1.2,hk.1.2⟩⟩⟩⟩⟩⟩⟩⟩⟩⟩)));(case side10=>exact (Kd.S_reads' HO_433000.out).2.1);(case side11=>refine (Kd.R_reads' (e:=5) (base:=w.heap.size) (ok:=fun k_=>(some k_ ≠ (.slice Ao57 t452.length co57 : Value).ownBlock∧some k_ ≠ (.slice Ao159 t513.length co159 : Value).ownBlock)) (n:=t422.length) (c:=co34) ?_).2.2;exact (by exact Kd.R_mono (R_far4n HO_433001.out BK523.out (by decide)) (fun _ hk=>⟨hk.1.1.1.1,hk.1.2⟩)));(case side12=>exact (Kd.R_reads' HO_433001.out).2.1);(case side13=>refine (Kd.R_reads' (e:=3) (base:=w.heap.size) (ok:=fun k_=>(some k_ ≠ (.slice Ao36 t428.length co36 : Value).ownBlock∧(some k_ ≠ (.slice Ao58 t455.length co58 : Value).ownBlock∧(some k_ ≠ (.slice Ao59 t458.length co59 : Value).ownBlock∧(some k_ ≠ (.slice Ao160 t516.length co160 : Value).ownBlock∧some k_ ≠ (.slice Ao161 t519.length co161 : Value).ownBlock))))) (n:=t425.length) (c:=co35) ?_).2.2;exact (by exact Kd.R_mono (R_far4n HO_433002.out BK523.out (by decide)) (fun _ hk=>⟨hk.1.1.1.1.1.1,⟨hk.1.1.1.1.1.2.1,⟨hk.1.1.1.1.1.2.2,⟨hk.1.1.2,hk.1.2⟩⟩⟩⟩)));(case side14=>exact (Kd.R_reads' HO_433002.out).2.1);(case side15=>refine (Kd.R_reads' (e:=3) (base:=w.heap.size) (ok:=fun k_=>(some k_ ≠ (.slice Ao35 t425.length co35 : Value).ownBlock∧(some k_ ≠ (.slice Ao58 t455.length co58 : Value).ownBlock∧(some k_ ≠ (.slice Ao59 t458.length co59 : Value).ownBlock∧(some k_ ≠ (.slice Ao160 t516.length co160 : Value).ownBlock∧some k_ ≠ (.slice Ao161 t519.length co161 : Value).ownBlock))))) (n:=t428.length) (c:=co36) ?_).2.2;exact (by exact Kd.R_mono (R_far4n HO_433003.out BK523.out (by decide)) (fun _ hk=>⟨hk.1.1.1.1.1.1,⟨hk.1.1.1.1.1.2.1,⟨hk.1.1.1.1.1.2.2,⟨hk.1.1.2,hk.1.2⟩⟩⟩⟩)));(case side16=>exact (Kd.R_reads' HO_433003.out).2.1);rintro e w179 ⟨rfl,hb⟩;refine ⟨_,rfl,?_⟩;replace HO_433000:=Aside0.mk (Kd.S_below (S_far4 HO_433000.out BK523.out (by decide)) hb);replace HO_433001:=Aside0.mk (Kd.R_below (R_far4 HO_433001.out BK523.out (by decide)) hb);replace HO_433002:=Aside0.mk (Kd.R_below (R_far4 HO_433002.out BK523.out (by decide)) hb);replace HO_433003:=Aside0.mk (Kd.R_below (R_far4 HO_433003.out BK523.out (by decide)) hb);replace HO_463000:=Aside0.mk (Kd.S_below (S_far4 HO_463000.out BK523.out (by decide)) hb);replace HO_463001:=Aside0.mk (Kd.R_below (R_far4 HO_463001.out BK523.out (by decide)) hb);replace HO_463002:=Aside0.mk (Kd.R_below (R_far4 HO_463002.out BK523.out (by decide)) hb);replace HO_463003:=Aside0.mk (Kd.R_below (R_far4 HO_463003.out BK523.out (by decide)) hb);replace HO512:=Aside0.mk (Kd.S_below (S_far4 HO512.out BK523.out (by decide)) hb);replace HO515:=Aside0.mk (Kd.R_below (R_far4 HO515.out BK523.out (by decide)) hb);replace HO518:=Aside0.mk (Kd.R_below (R_far4 HO518.out BK523.out (by decide)) hb);replace HO521:=Aside0.mk (Kd.R_below (R_far4 HO521.out BK523.out (by decide)) hb);replace BK402:=Aside0.mk (blk_below (g:=gb402) (o:=.cells #[.slice A0_0 l0_0.length c0_0,.slice A0_1 l0_1.length c0_1,.slice A0_2 l0_2.length c0_2,.slice A0_3 l0_3.length c0_3] 26 (0,0)) (by refine blk_far ?_ NB402_523.out _;refine blk_far ?_ NB402_523.out _;refine blk_far ?_ NB402_523.out _;refine blk_far ?_ NB402_523.out _;exact BK402.out) hb);replace BK432:=Aside0.mk (blk_below (g:=gb432) (o:=.cells #[.slice Ao31 t419.length co31,.slice Ao34 t422.length co34,.slice Ao35 t425.length co35,.slice Ao36 t428.length co36] 29 (0,0)) (by refine blk_far ?_ NB432_523.out _;refine blk_far ?_ NB432_523.out _;refine blk_far ?_ NB432_523.out _;refine blk_far ?_ NB432_523.out _;exact BK432.out) hb);replace BK462:=Aside0.mk (blk_below (g:=gb462) (o:=.cells #[.slice Ao52 t449.length co52,.slice Ao57 t452.length co57,.slice Ao58 t455.length co58,.slice Ao59 t458.length co59] 29 (0,0)) (by refine blk_far ?_ NB462_523.out _;refine blk_far ?_ NB462_523.out _;refine blk_far ?_ NB462_523.out _;refine blk_far ?_ NB462_523.out _;exact BK462.out) hb);replace BK523:=Aside0.mk (blk_below (g:=gb523) (o:=.cells #[.slice Ao154 t510.length co154,.slice Ao159 t513.length co159,.slice Ao160 t516.length co160,.slice Ao161 t519.length co161] 29 (0,0)) (by refine blk_put (cs:=#[.slice Ao154 t510.length co154,.slice Ao159 t513.length co159,.slice Ao160 t516.length co160,.slice none 0 0]) ?_ 3 _ rfl;refine blk_put (cs:=#[.slice Ao154 t510.length co154,.slice Ao159 t513.length co159,.slice none 0 0,.slice none 0 0]) ?_ 2 _ rfl;refine blk_put (cs:=#[.slice Ao154 t510.length co154,.slice none 0 0,.slice none 0 0,.slice none 0 0]) ?_ 1 _ rfl;refine blk_put (cs:=#[.slice none 0 0,.slice none 0 0,.slice none 0 0,.slice none 0 0]) ?_ 0 _ rfl;exact BK523.out) hb);replace HB:=Aside0.mk (below_step (by repeat (first|(with_reducible first|exact HB.out|apply below_alloc|apply pw_below_drewN|apply below_drew1|refine below_set ?_ GE402.out|refine below_set ?_ GE432.out|refine below_set ?_ GE462.out|refine below_set ?_ GE523.out)|exact HB.out)) hb);clear hb))
               go_meet
               case rel=>exact ⟨_,(true),(by first|rfl|(simp;done)|(simp [*];done)),H',⟨by have:=HJ16.out;have:=HJ86.out;first|omega|exact Nat.le_refl _⟩,⟨by exact Kd.S_mono HO_433000.out (fun _ hk=>⟨hk.1.1.1.1.1.1.1.1,⟨hk.1.1.1.1.1.1.1.2.1,⟨hk.1.1.1.1.1.1.1.2.2.1,⟨hk.1.1.2,⟨hk.1.2,⟨hk.1.1.1.1.1.1.1.2.2.2.1,⟨hk.1.1.1.1.1.1.1.2.2.2.2.1,⟨hk.1.1.1.1.1.1.1.2.2.2.2.2.1,⟨hk.1.1.1.1.1.1.1.2.2.2.2.2.2,⟨hk.1.1.1.1.2,hk.2⟩⟩⟩⟩⟩⟩⟩⟩⟩⟩)⟩,⟨by exact Kd.R_mono HO_433001.out (fun _ hk=>⟨hk.1.1.1,hk.2⟩)⟩,⟨by exact Kd.R_mono HO_433002.out (fun _ hk=>⟨hk.1.1.1.1.1,⟨hk.1.1.1.1.2.1,⟨hk.1.1.1.1.2.2,⟨hk.1.2,hk.2⟩⟩⟩⟩)⟩,⟨by exact Kd.R_mono HO_433003.out (fun _ hk=>⟨hk.1.1.1.1.1,⟨hk.1.1.1.1.2.1,⟨hk.1.1.1.1.2.2,⟨hk.1.2,hk.2⟩⟩⟩⟩)⟩,⟨by exact Kd.S_mono HO_463000.out (fun _ hk=>⟨hk.1.1.2,⟨hk.1.2,⟨hk.1.1.1.1.2,hk.2⟩⟩⟩)⟩,⟨by exact Kd.R_mono HO_463001.out (fun _ hk=>⟨hk.1.1.1,hk.2⟩)⟩,⟨by exact Kd.R_mono HO_463002.out (fun _ hk=>⟨hk.1.1.1.1.1,⟨hk.1.1.1.1.2.1,⟨hk.1.1.1.1.2.2,⟨hk.1.2,hk.2⟩⟩⟩⟩)⟩,⟨by exact Kd.R_mono HO_463003.out (fun _ hk=>⟨hk.1.1.1.1.1,⟨hk.1.1.1.1.2.1,⟨hk.1.1.1.1.2.2,⟨hk.1.2,hk.2⟩⟩⟩⟩)⟩,⟨by exact Kd.S_mono HO512.out (fun _ hk=>⟨hk.1.1.1.1.1.1.2,⟨hk.1.1.1.1.1.2,⟨hk.1.1.1.1.2,⟨hk.1.1.1.2,⟨hk.1.1.1.1.1.1.1.1,hk.1.1.1.1.1.1.1.2⟩⟩⟩⟩⟩)⟩,⟨by exact Kd.R_mono HO515.out (fun _ hk=>⟨hk.1.1.1.2,hk.1.1.2⟩)⟩,⟨by exact Kd.R_mono HO518.out (fun _ hk=>⟨hk.1.1.1.1.1.2,⟨hk.1.1.1.1.2,⟨hk.1.1.1.2,⟨hk.1.1.2,hk.1.1.1.1.1.1⟩⟩⟩⟩)⟩,⟨by exact Kd.R_mono HO521.out (fun _ hk=>⟨hk.1.1.1.1.1.2,⟨hk.1.1.1.1.2,⟨hk.1.1.1.2,⟨hk.1.1.2,hk.1.1.1.1.1.1⟩⟩⟩⟩)⟩,⟨by exact BK402.out⟩,⟨by exact BK432.out⟩,⟨by exact BK462.out⟩,⟨by exact BK523.out⟩,⟨by repeat (first|(with_reducible first|exact HB.out|apply below_alloc|apply pw_below_drewN|apply below_drew1|refine below_set ?_ GE402.out|refine below_set ?_ GE432.out|refine below_set ?_ GE462.out|refine below_set ?_ GE523.out)|exact HB.out)⟩⟩
             case rest =>
              clear HC136
              try clear c1;try clear c2;try clear p2;try clear c3;try clear c4;try clear c4b0;try clear c4b1;try clear c5;try clear c6;try clear c7;try clear c7b0;try clear c8;try clear c9;try clear c10;try clear c11;try clear c12;try clear c13;try clear c14;try clear c15;try clear c16;try clear c17;try clear c20;try clear c29;try clear c30;try clear c31;try clear c32;try clear c33;try clear c34;try clear c41;try clear c42;try clear c53;try clear c54;try clear c55;try clear c61;try clear c62;try clear c63;try clear c64;try clear c66;try clear c67;try clear c70;try clear c71;try clear c72;try clear c74;try clear c75;try clear c78;try clear c81;try clear c84;try clear c97;try clear c98;try clear c99;try clear c103;try clear c103b0;try clear c105;try clear c106;try clear c107;try clear c108;try clear c110;try clear c111;try clear c114;try clear c115;try clear c116;try clear c118;try clear c119;try clear c122;try clear c125;try clear c125b0;try clear c126;try clear c127;try clear c132;try clear c132b0;try clear c132b1;try clear c137;try clear c138;try clear c143;try clear c155;try clear c156;try clear c157;try clear c163;try clear c164;try clear c165;try clear c166;try clear c168;try clear c169;try clear c172;try clear c173;try clear c174;try clear c176;try clear c177;try clear hcz100_0;try clear hcz100_1;try clear hcz100_2;try clear hcz100_3;try clear hcz109_0;try clear hcz109_1;try clear hcz109_2;try clear hcz109_3;try clear hcz112_0;try clear hcz112_1;try clear hcz112_2;try clear hcz112_3;try clear hcz117_0;try clear hcz117_1;try clear hcz117_2;try clear hcz117_3;try clear hcz120_0;try clear hcz120_1;try clear hcz120_2;try clear hcz120_3;try clear hcz128_0;try clear hcz128_1;try clear hcz128_2;try clear hcz128_3;try clear hcz130_0;try clear hcz130_1;try clear hcz130_2;try clear hcz130_3;try clear hcz139_0;try clear hcz139_1;try clear hcz139_2;try clear hcz139_3;try clear hcz141_0;try clear hcz141_1;try clear hcz141_2;try clear hcz141_3;try clear hcz144_0;try clear hcz144_1;try clear hcz144_2;try clear hcz144_3;try clear hcz158_0;try clear hcz158_1;try clear hcz158_2;try clear hcz158_3;try clear hcz167_0;try clear hcz167_1;try clear hcz167_2;try clear hcz167_3;try clear hcz170_0;try clear hcz170_1;try clear hcz170_2;try clear hcz170_3;try clear hcz175_0;try clear hcz175_1;try clear hcz175_2;try clear hcz175_3;try clear hcz178_0;try clear hcz178_1;try clear hcz178_2;try clear hcz178_3;try clear hcz19_0;try clear hcz19_1;try clear hcz19_2;try clear hcz19_3;try clear hcz21_0;try clear hcz21_1;try clear hcz21_2;try clear hcz21_3;try clear hcz33_0;try clear hcz33_1;try clear hcz33_2;try clear hcz33_3;try clear hcz37_0;try clear hcz37_1;try clear hcz37_2;try clear hcz37_3;try clear hcz43_0;try clear hcz43_1;try clear hcz43_2;try clear hcz43_3;try clear hcz48_0;try clear hcz48_1;try clear hcz48_2;try clear hcz48_3;try clear hcz56_0;try clear hcz56_1;try clear hcz56_2;try clear hcz56_3;try clear hcz65_0;try clear hcz65_1;try clear hcz65_2;try clear hcz65_3;try clear hcz68_0;try clear hcz68_1;try clear hcz68_2;try clear hcz68_3;try clear hcz73_0;try clear hcz73_1;try clear hcz73_2;try clear hcz73_3;try clear hcz76_0;try clear hcz76_1;try clear hcz76_2;try clear hcz76_3;try clear hcz9_0;try clear hcz9_1;try clear hcz9_2;try clear hcz9_3;try clear hfz100_0;try clear hfz100_1;try clear hfz100_2;try clear hfz100_3;try clear hfz109_0;try clear hfz109_1;try clear hfz109_2;try clear hfz109_3;try clear hfz112_0;try clear hfz112_1;try clear hfz112_2;try clear hfz112_3;try clear hfz117_0;try clear hfz117_1;try clear hfz117_2;try clear hfz117_3;try clear hfz120_0;try clear hfz120_1;try clear hfz120_2;try clear hfz120_3;try clear hfz128_0;try clear hfz128_1;try clear hfz128_2;try clear hfz128_3;try clear hfz130_0;try clear hfz130_1;try clear hfz130_2;try clear hfz130_3;try clear hfz139_0;try clear hfz139_1;try clear hfz139_2;try clear hfz139_3;try clear hfz141_0;try clear hfz141_1;try clear hfz141_2;try clear hfz141_3;try clear hfz144_0;try clear hfz144_1;try clear hfz144_2;try clear hfz144_3;try clear hfz158_0;try clear hfz158_1;try clear hfz158_2;try clear hfz158_3;try clear hfz167_0;try clear hfz167_1;try clear hfz167_2;try clear hfz167_3;try clear hfz170_0;try clear hfz170_1;try clear hfz170_2;try clear hfz170_3;try clear hfz175_0;try clear hfz175_1;try clear hfz175_2;try clear hfz175_3;try clear hfz178_0;try clear hfz178_1;try clear hfz178_2;try clear hfz178_3;try clear hfz19_0;try clear hfz19_1;try clear hfz19_2;try clear hfz19_3;try clear hfz21_0;try clear hfz21_1;try clear hfz21_2;try clear hfz21_3;try clear hfz33_0;try clear hfz33_1;try clear hfz33_2;try clear hfz33_3;try clear hfz37_0;try clear hfz37_1;try clear hfz37_2;try clear hfz37_3;try clear hfz43_0;try clear hfz43_1;try clear hfz43_2;try clear hfz43_3;try clear hfz48_0;try clear hfz48_1;try clear hfz48_2;try clear hfz48_3;try clear hfz56_0;try clear hfz56_1;try clear hfz56_2;try clear hfz56_3;try clear hfz65_0;try clear hfz65_1;try clear hfz65_2;try clear hfz65_3;try clear hfz68_0;try clear hfz68_1;try clear hfz68_2;try clear hfz68_3;try clear hfz73_0;try clear hfz73_1;try clear hfz73_2;try clear hfz73_3;try clear hfz76_0;try clear hfz76_1;try clear hfz76_2;try clear hfz76_3;try clear hfz9_0;try clear hfz9_1;try clear hfz9_2;try clear hfz9_3;try clear p2
              obtain ⟨kq,x113_135,rfl,HA,HJ135,HO_433000,HO_433001,HO_433002,HO_433003,HO_463000,HO_463001,HO_463002,HO_463003,HO_524000,HO_524001,HO_524002,HO_524003,BK402,BK432,BK462,BK523,HB⟩:=hcut
              have hl463000_135:=(Kd.S_reads' HO_463000.out).1
              rw [hl463000_135] at HO_463000
              (try simp only [hl463000_135])
              (try simp only [hl463000_135] at BK402)
              (try simp only [hl463000_135] at BK432)
              (try simp only [hl463000_135] at BK462)
              (try simp only [hl463000_135] at BK523)
              (try simp only [hl463000_135] at HO_433000)
              (try simp only [hl463000_135] at HO_433001)
              (try simp only [hl463000_135] at HO_433002)
              (try simp only [hl463000_135] at HO_433003)
              (try simp only [hl463000_135] at HO_463001)
              (try simp only [hl463000_135] at HO_463002)
              (try simp only [hl463000_135] at HO_463003)
              (try simp only [hl463000_135] at HO_524000)
              (try simp only [hl463000_135] at HO_524001)
              (try simp only [hl463000_135] at HO_524002)
              (try simp only [hl463000_135] at HO_524003)
              have hl463001_135:=(Kd.R_reads' HO_463001.out).1
              rw [hl463001_135] at HO_463001
              (try simp only [hl463001_135])
              (try simp only [hl463001_135] at BK402)
              (try simp only [hl463001_135] at BK432)
              (try simp only [hl463001_135] at BK462)
              (try simp only [hl463001_135] at BK523)
              (try simp only [hl463001_135] at HO_433000)
              (try simp only [hl463001_135] at HO_433001)
              (try simp only [hl463001_135] at HO_433002)
              (try simp only [hl463001_135] at HO_433003)
              (try simp only [hl463001_135] at HO_463000)
              (try simp only [hl463001_135] at HO_463002)
              (try simp only [hl463001_135] at HO_463003)
              (try simp only [hl463001_135] at HO_524000)
              (try simp only [hl463001_135] at HO_524001)
              (try simp only [hl463001_135] at HO_524002)
              (try simp only [hl463001_135] at HO_524003)
              have hl463002_135:=(Kd.R_reads' HO_463002.out).1
              rw [hl463002_135] at HO_463002
              (try simp only [hl463002_135])
              (try simp only [hl463002_135] at BK402)
              (try simp only [hl463002_135] at BK432)
              (try simp only [hl463002_135] at BK462)
              (try simp only [hl463002_135] at BK523)
              (try simp only [hl463002_135] at HO_433000)
              (try simp only [hl463002_135] at HO_433001)
              (try simp only [hl463002_135] at HO_433002)
              (try simp only [hl463002_135] at HO_433003)
              (try simp only [hl463002_135] at HO_463000)
              (try simp only [hl463002_135] at HO_463001)
              (try simp only [hl463002_135] at HO_463003)
              (try simp only [hl463002_135] at HO_524000)
              (try simp only [hl463002_135] at HO_524001)
              (try simp only [hl463002_135] at HO_524002)
              (try simp only [hl463002_135] at HO_524003)
              have hl463003_135:=(Kd.R_reads' HO_463003.out).1
              rw [hl463003_135] at HO_463003
              (try simp only [hl463003_135])
              (try simp only [hl463003_135] at BK402)
              (try simp only [hl463003_135] at BK432)
              (try simp only [hl463003_135] at BK462)
              (try simp only [hl463003_135] at BK523)
              (try simp only [hl463003_135] at HO_433000)
              (try simp only [hl463003_135] at HO_433001)
              (try simp only [hl463003_135] at HO_433002)
              (try simp only [hl463003_135] at HO_433003)
              (try simp only [hl463003_135] at HO_463000)
              (try simp only [hl463003_135] at HO_463001)
              (try simp only [hl463003_135] at HO_463002)
              (try simp only [hl463003_135] at HO_524000)
              (try simp only [hl463003_135] at HO_524001)
              (try simp only [hl463003_135] at HO_524002)
              (try simp only [hl463003_135] at HO_524003)
              cases kq with
              | zero=>exact absurd HA.out (by simp [laws_FnExactPutIn.j2])
              | succ kj135 =>
               have H:=HA.out
               clear HA
               simp only [laws_FnExactPutIn.j2] at H
               by_cases c180 : x113_135 = true
               ·subst c180
                have H1 : (some false) = some r:=by rw [if_pos rfl] at H;exact H
                clear H
                have H:=H1
                clear H1
                obtain rfl:=Option.some.inj H
                go_wp2
                go_ret
                exact ⟨by first|rfl|(simp [*,errW_none,errW_some] <;> rfl),by repeat (first|(with_reducible first|exact HB.out|apply below_alloc|apply pw_below_drewN|apply below_drew1|refine below_set ?_ GE402.out|refine below_set ?_ GE432.out|refine below_set ?_ GE462.out|refine below_set ?_ GE523.out)|exact HB.out)⟩
               ·replace c180:=Bool.eq_false_iff.mpr c180
                subst c180
                have H1 : ((laws_heldSpace.f kj135 t490 t491 t492 t493 1).bind fun t525=>(if t525 < 0 then (some false) else (if t525 = t489 then (some true) else (some false)))) = some r:=by rw [if_neg (show ¬ (false = true) by decide)] at H;exact H
                clear H
                have H:=H1
                clear H1
                replace H:=Option.bind_eq_some_iff.mp H
                obtain ⟨t525,A1810,H⟩:=H
                replace H : (if t525 < 0 then (some false) else (if t525 = t489 then (some true) else (some false))) = some r:=H
                have A181:=Aside0.mk A1810
                clear A1810
                by_cases c182 : t525 < 0
                ·rw [if_pos c182] at H
                 have c182b0 : decide (t525 < 0) = true:=decide_eq_true c182
                 clear c182
                 obtain rfl:=Option.some.inj H
                 have hnb183:=NB462_402.out
                 have hnc183:=NB402_462.out
                 have hnb184:=NB462_432.out
                 have hnc184:=NB432_462.out
                 have hnb185:=NB462_523.out
                 have hnc185:=NB523_462.out
                 have hcz186_0 : wc.cell? ⟨gb462,0,none⟩ = some (.slice Ao52 t490.length co52):=(blk_cell BK462.out 0).trans rfl
                 have hcz186_1 : wc.cell? ⟨gb462,1,none⟩ = some (.slice Ao57 t491.length co57):=(blk_cell BK462.out 1).trans rfl
                 have hcz186_2 : wc.cell? ⟨gb462,2,none⟩ = some (.slice Ao58 t492.length co58):=(blk_cell BK462.out 2).trans rfl
                 have hcz186_3 : wc.cell? ⟨gb462,3,none⟩ = some (.slice Ao59 t493.length co59):=(blk_cell BK462.out 3).trans rfl
                 have hfz186_0:=blk_frozen BK462.out 0
                 have hfz186_1:=blk_frozen BK462.out 1
                 have hfz186_2:=blk_frozen BK462.out 2
                 have hfz186_3:=blk_frozen BK462.out 3
                 go_wp2_with (first|((with_reducible refine gate_callee (f:=29) rfl ?_);refine goesL_ (some 116) rfl rfl Try.func29 (by kernel_rfl) rfl #[.agg #[.slice Ao52 t490.length co52,.slice Ao57 t491.length co57,.slice Ao58 t492.length co58,.slice Ao59 t493.length co59],.int .i64 1] rfl (by (try simp only [List.map_toArray,List.map_cons,List.map_nil]);first|done|rfl) ?_;(with_reducible refine (laws_heldSpace.calls kj135 _ _ t490 _ _ t491 _ _ t492 _ _ t493 1 t525 _ ?side1 ?side2 ?side3 ?side4 ?side5 ?side6 ?side7 ?side8 A181.out).mono ?_);(case side1=>exact (Kd.S_reads' HO_463000.out).2.2);(case side2=>exact (Kd.S_reads' HO_463000.out).2.1);(case side3=>exact (Kd.R_reads' HO_463001.out).2.2);(case side4=>exact (Kd.R_reads' HO_463001.out).2.1);(case side5=>exact (Kd.R_reads' HO_463002.out).2.2);(case side6=>exact (Kd.R_reads' HO_463002.out).2.1);(case side7=>exact (Kd.R_reads' HO_463003.out).2.2);(case side8=>exact (Kd.R_reads' HO_463003.out).2.1);rintro e w187 ⟨rfl,hb⟩;refine ⟨_,rfl,?_⟩;replace HO_463000:=Aside0.mk (Kd.S_below HO_463000.out hb);replace HO_463001:=Aside0.mk (Kd.R_below HO_463001.out hb);replace HO_463002:=Aside0.mk (Kd.R_below HO_463002.out hb);replace HO_463003:=Aside0.mk (Kd.R_below HO_463003.out hb);replace BK402:=Aside0.mk (blk_below BK402.out hb);replace BK432:=Aside0.mk (blk_below BK432.out hb);replace BK462:=Aside0.mk (blk_below BK462.out hb);replace BK523:=Aside0.mk (blk_below BK523.out hb);replace HB:=Aside0.mk (below_step HB.out hb);clear HO_433000 HO_433001 HO_433002 HO_433003 HO_524000 HO_524001 HO_524002 HO_524003;clear hb))
                 go_ret
                 exact ⟨by first|rfl|(simp [*,errW_none,errW_some] <;> rfl),by repeat (first|(with_reducible first|exact HB.out|apply below_alloc|apply pw_below_drewN|apply below_drew1|refine below_set ?_ GE402.out|refine below_set ?_ GE432.out|refine below_set ?_ GE462.out|refine below_set ?_ GE523.out)|exact HB.out)⟩
                ·rw [if_neg c182] at H
                 have c182b0 : decide (t525 < 0) = false:=decide_eq_false c182
                 clear c182
                 by_cases c188 : t525 = t489
                 ·rw [if_pos c188] at H
                  have c188b0 : (t525 == t489) = true:=beq_iff_eq.mpr c188
                  have c188b1 : (t525 != t489) = false:=bne_eq_false_iff_eq.mpr c188
                  clear c188
                  obtain rfl:=Option.some.inj H
                  have hnb189:=NB462_402.out
                  have hnc189:=NB402_462.out
                  have hnb190:=NB462_432.out
                  have hnc190:=NB432_462.out
                  have hnb191:=NB462_523.out
                  have hnc191:=NB523_462.out
                  have hcz192_0 : wc.cell? ⟨gb462,0,none⟩ = some (.slice Ao52 t490.length co52):=(blk_cell BK462.out 0).trans rfl
                  have hcz192_1 : wc.cell? ⟨gb462,1,none⟩ = some (.slice Ao57 t491.length co57):=(blk_cell BK462.out 1).trans rfl
                  have hcz192_2 : wc.cell? ⟨gb462,2,none⟩ = some (.slice Ao58 t492.length co58):=(blk_cell BK462.out 2).trans rfl
                  have hcz192_3 : wc.cell? ⟨gb462,3,none⟩ = some (.slice Ao59 t493.length co59):=(blk_cell BK462.out 3).trans rfl
                  have hfz192_0:=blk_frozen BK462.out 0
                  have hfz192_1:=blk_frozen BK462.out 1
                  have hfz192_2:=blk_frozen BK462.out 2
                  have hfz192_3:=blk_frozen BK462.out 3
                  go_wp2_with (first|((with_reducible refine gate_callee (f:=29) rfl ?_);refine goesL_ (some 116) rfl rfl Try.func29 (by kernel_rfl) rfl #[.agg #[.slice Ao52 t490.length co52,.slice Ao57 t491.length co57,.slice Ao58 t492.length co58,.slice Ao59 t493.length co59],.int .i64 1] rfl (by (try simp only [List.map_toArray,List.map_cons,List.map_nil]);first|done|rfl) ?_;(with_reducible refine (laws_heldSpace.calls kj135 _ _ t490 _ _ t491 _ _ t492 _ _ t493 1 t525 _ ?side1 ?side2 ?side3 ?side4 ?side5 ?side6 ?side7 ?side8 A181.out).mono ?_);(case side1=>exact (Kd.S_reads' HO_463000.out).2.2);(case side2=>exact (Kd.S_reads' HO_463000.out).2.1);(case side3=>exact (Kd.R_reads' HO_463001.out).2.2);(case side4=>exact (Kd.R_reads' HO_463001.out).2.1);(case side5=>exact (Kd.R_reads' HO_463002.out).2.2);(case side6=>exact (Kd.R_reads' HO_463002.out).2.1);(case side7=>exact (Kd.R_reads' HO_463003.out).2.2);(case side8=>exact (Kd.R_reads' HO_463003.out).2.1);rintro e w193 ⟨rfl,hb⟩;refine ⟨_,rfl,?_⟩;replace HO_463000:=Aside0.mk (Kd.S_below HO_463000.out hb);replace HO_463001:=Aside0.mk (Kd.R_below HO_463001.out hb);replace HO_463002:=Aside0.mk (Kd.R_below HO_463002.out hb);replace HO_463003:=Aside0.mk (Kd.R_below HO_463003.out hb);replace BK402:=Aside0.mk (blk_below BK402.out hb);replace BK432:=Aside0.mk (blk_below BK432.out hb);replace BK462:=Aside0.mk (blk_below BK462.out hb);replace BK523:=Aside0.mk (blk_below BK523.out hb);replace HB:=Aside0.mk (below_step HB.out hb);clear HO_433000 HO_433001 HO_433002 HO_433003 HO_524000 HO_524001 HO_524002 HO_524003;clear hb))
                  go_ret
                  exact ⟨by first|rfl|(simp [*,errW_none,errW_some] <;> rfl),by repeat (first|(with_reducible first|exact HB.out|apply below_alloc|apply pw_below_drewN|apply below_drew1|refine below_set ?_ GE402.out|refine below_set ?_ GE432.out|refine below_set ?_ GE462.out|refine below_set ?_ GE523.out)|exact HB.out)⟩
                 ·rw [if_neg c188] at H
                  have c188b0 : (t525 == t489) = false:=beq_eq_false_iff_ne.mpr c188
                  have c188b1 : (t525 != t489) = true:=bne_iff_ne.mpr c188
                  obtain rfl:=Option.some.inj H
                  have hnb194:=NB462_402.out
                  have hnc194:=NB402_462.out
                  have hnb195:=NB462_432.out
                  have hnc195:=NB432_462.out
                  have hnb196:=NB462_523.out
                  have hnc196:=NB523_462.out
                  have hcz197_0 : wc.cell? ⟨gb462,0,none⟩ = some (.slice Ao52 t490.length co52):=(blk_cell BK462.out 0).trans rfl
                  have hcz197_1 : wc.cell? ⟨gb462,1,none⟩ = some (.slice Ao57 t491.length co57):=(blk_cell BK462.out 1).trans rfl
                  have hcz197_2 : wc.cell? ⟨gb462,2,none⟩ = some (.slice Ao58 t492.length co58):=(blk_cell BK462.out 2).trans rfl
                  have hcz197_3 : wc.cell? ⟨gb462,3,none⟩ = some (.slice Ao59 t493.length co59):=(blk_cell BK462.out 3).trans rfl
                  have hfz197_0:=blk_frozen BK462.out 0
                  have hfz197_1:=blk_frozen BK462.out 1
                  have hfz197_2:=blk_frozen BK462.out 2
                  have hfz197_3:=blk_frozen BK462.out 3
                  go_wp2_with (first|((with_reducible refine gate_callee (f:=29) rfl ?_);refine goesL_ (some 116) rfl rfl Try.func29 (by kernel_rfl) rfl #[.agg #[.slice Ao52 t490.length co52,.slice Ao57 t491.length co57,.slice Ao58 t492.length co58,.slice Ao59 t493.length co59],.int .i64 1] rfl (by (try simp only [List.map_toArray,List.map_cons,List.map_nil]);first|done|rfl) ?_;(with_reducible refine (laws_heldSpace.calls kj135 _ _ t490 _ _ t491 _ _ t492 _ _ t493 1 t525 _ ?side1 ?side2 ?side3 ?side4 ?side5 ?side6 ?side7 ?side8 A181.out).mono ?_);(case side1=>exact (Kd.S_reads' HO_463000.out).2.2);(case side2=>exact (Kd.S_reads' HO_463000.out).2.1);(case side3=>exact (Kd.R_reads' HO_463001.out).2.2);(case side4=>exact (Kd.R_reads' HO_463001.out).2.1);(case side5=>exact (Kd.R_reads' HO_463002.out).2.2);(case side6=>exact (Kd.R_reads' HO_463002.out).2.1);(case side7=>exact (Kd.R_reads' HO_463003.out).2.2);(case side8=>exact (Kd.R_reads' HO_463003.out).2.1);rintro e w198 ⟨rfl,hb⟩;refine ⟨_,rfl,?_⟩;replace HO_463000:=Aside0.mk (Kd.S_below HO_463000.out hb);replace HO_463001:=Aside0.mk (Kd.R_below HO_463001.out hb);replace HO_463002:=Aside0.mk (Kd.R_below HO_463002.out hb);replace HO_463003:=Aside0.mk (Kd.R_below HO_463003.out hb);replace BK402:=Aside0.mk (blk_below BK402.out hb);replace BK432:=Aside0.mk (blk_below BK432.out hb);replace BK462:=Aside0.mk (blk_below BK462.out hb);replace BK523:=Aside0.mk (blk_below BK523.out hb);replace HB:=Aside0.mk (below_step HB.out hb);clear HO_433000 HO_433001 HO_433002 HO_433003 HO_524000 HO_524001 HO_524002 HO_524003;clear hb))
                  go_ret
                  exact ⟨by first|rfl|(simp [*,errW_none,errW_some] <;> rfl),by repeat (first|(with_reducible first|exact HB.out|apply below_alloc|apply pw_below_drewN|apply below_drew1|refine below_set ?_ GE402.out|refine below_set ?_ GE432.out|refine below_set ?_ GE462.out|refine below_set ?_ GE523.out)|exact HB.out)⟩
            ·rw [if_neg c132] at H
             have c132b0 : (t494 == t489) = false:=beq_eq_false_iff_ne.mpr c132
             have c132b1 : (t494 != t489) = true:=bne_iff_ne.mpr c132
             obtain rfl:=Option.some.inj H
             have hnb199:=NB462_402.out
             have hnc199:=NB402_462.out
             have hnb200:=NB462_432.out
             have hnc200:=NB432_462.out
             have hcz201_0 : wc.cell? ⟨gb462,0,none⟩ = some (.slice Ao52 t449.length co52):=(blk_cell BK462.out 0).trans rfl
             have hcz201_1 : wc.cell? ⟨gb462,1,none⟩ = some (.slice Ao57 t452.length co57):=(blk_cell BK462.out 1).trans rfl
             have hcz201_2 : wc.cell? ⟨gb462,2,none⟩ = some (.slice Ao58 t455.length co58):=(blk_cell BK462.out 2).trans rfl
             have hcz201_3 : wc.cell? ⟨gb462,3,none⟩ = some (.slice Ao59 t458.length co59):=(blk_cell BK462.out 3).trans rfl
             have hfz201_0:=blk_frozen BK462.out 0
             have hfz201_1:=blk_frozen BK462.out 1
             have hfz201_2:=blk_frozen BK462.out 2
             have hfz201_3:=blk_frozen BK462.out 3
             go_wp2_with (first|((with_reducible refine gate_callee (f:=20) rfl ?_);refine goesL_ (some 87) rfl rfl Try.func20 (by kernel_rfl) rfl #[.agg #[.slice Ao52 t449.length co52,.slice Ao57 t452.length co57,.slice Ao58 t455.length co58,.slice Ao59 t458.length co59],.int .i64 1] rfl (by (try simp only [List.map_toArray,List.map_cons,List.map_nil]);first|done|rfl) ?_;(with_reducible refine (laws_markSpace.calls kj86 (SB_ (Kd.slice 5 (Kd.int .u8)) 23 wc w.heap.size (fun k_=>(some k_ ≠ (.slice Ao31 t419.length co31 : Value).ownBlock∧(some k_ ≠ (.slice Ao34 t422.length co34 : Value).ownBlock∧(some k_ ≠ (.slice Ao57 t452.length co57 : Value).ownBlock∧(w47.heap.size ≤ k_∧k_ < w88.heap.size)))))) (.slice Ao52 t449.length co52) t449 (fun k_=>some k_ = (.slice Ao57 t452.length co57 : Value).ownBlock) (.slice Ao57 t452.length co57) t452 (fun k_=>some k_ = (.slice Ao58 t455.length co58 : Value).ownBlock) (.slice Ao58 t455.length co58) t455 (fun k_=>some k_ = (.slice Ao59 t458.length co59 : Value).ownBlock) (.slice Ao59 t458.length co59) t458 1 t489 t490 t491 t492 t493 w _ ?side1 ?side2 ?side3 ?side4 ?side5 ?side6 ?side7 ?side8 A123.out).mono ?_);(case side1=>repeat (first|(with_reducible first|exact HB.out|apply below_alloc|apply pw_below_drewN|apply below_drew1|refine below_set ?_ GE402.out|refine below_set ?_ GE432.out|refine below_set ?_ GE462.out)|exact HB.out));(case side2=>exact SB_own HO_463000.out);(case side3=>exact fun k_ h_ e_=>(h_.1.2.2.1) e_);(case side4=>exact Kd.R_tight rfl HO_463001.out);(case side5=>exact Kd.R_tight rfl HO_463002.out);(case side6=>exact fun k_ e_=>(HO_463002.out.1 k_ e_.symm).2.2);(case side7=>exact Kd.R_tight rfl HO_463003.out);(case side8=>exact fun k_ e_=>(HO_463003.out.1 k_ e_.symm).2.2);rintro e w202 ⟨rfl,hy0,hy1,hy2,hy3,hb,hkp⟩;refine ⟨_,rfl,?_⟩;replace HO_463000:=Aside0.mk (Kd.S_mono (ok':=fun k_=>True) hy0 (fun k_ h_=>trivial));replace BK402:=Aside0.mk (blk_kept (g:=gb402) (o:=.cells #[.slice A0_0 l0_0.length c0_0,.slice A0_1 l0_1.length c0_1,.slice A0_2 l0_2.length c0_2,.slice A0_3 l0_3.length c0_3] 26 (0,0)) BK402.out hkp (fun hs_=>Or.elim hs_ (fun e_=>(fun e_=>(blk_SB BK402.out (by decide)) e_) e_) (fun e_=>Or.elim e_ (fun e_=>(fun e_=>(Kd.R_ne HO_463001.out BK402.out (by decide)) e_) e_) (fun e_=>Or.elim e_ (fun e_=>(fun e_=>(Kd.R_ne HO_463002.out BK402.out (by decide)) e_) e_) (fun e_=>(fun e_=>(Kd.R_ne HO_463003.out BK402.out (by decide)) e_) e_)))));replace BK432:=Aside0.mk (blk_kept (g:=gb432) (o:=.cells #[.slice Ao31 t419.length co31,.slice Ao34 t422.length co34,.slice Ao35 t425.length co35,.slice Ao36 t428.length co36] 29 (0,0)) BK432.out hkp (fun hs_=>Or.elim hs_ (fun e_=>(fun e_=>(blk_SB BK432.out (by decide)) e_) e_) (fun e_=>Or.elim e_ (fun e_=>(fun e_=>(Kd.R_ne HO_463001.out BK432.out (by decide)) e_) e_) (fun e_=>Or.elim e_ (fun e_=>(fun e_=>(Kd.R_ne HO_463002.out BK432.out (by decide)) e_) e_) (fun e_=>(fun e_=>(Kd.R_ne HO_463003.out BK432.out (by decide)) e_) e_)))));replace BK462:=Aside0.mk (blk_kept (g:=gb462) (o:=.cells #[.slice Ao52 t449.length co52,.slice Ao57 t452.length co57,.slice Ao58 t455.length co58,.slice Ao59 t458.length co59] 29 (0,0)) BK462.out hkp (fun hs_=>Or.elim hs_ (fun e_=>(fun e_=>(blk_SB BK462.out (by decide)) e_) e_) (fun e_=>Or.elim e_ (fun e_=>(fun e_=>(Kd.R_ne HO_463001.out BK462.out (by decide)) e_) e_) (fun e_=>Or.elim e_ (fun e_=>(fun e_=>(Kd.R_ne HO_463002.out BK462.out (by decide)) e_) e_) (fun e_=>(fun e_=>(Kd.R_ne HO_463003.out BK462.out (by decide)) e_) e_)))));replace HO_463001:=Aside0.mk (Kd.R_reok rfl hy1 (fun k_ e_=>HO_463001.out.1 k_ e_));replace HO_463002:=Aside0.mk (Kd.R_reok rfl hy2 (fun k_ e_=>HO_463002.out.1 k_ e_));replace HO_463003:=Aside0.mk (Kd.R_reok rfl hy3 (fun k_ e_=>HO_463003.out.1 k_ e_));replace HB:=Aside0.mk (hb);clear HO_433000 HO_433001 HO_433002 HO_433003;clear hb hkp hy0 hy1 hy2 hy3;have hcz203_0 : w202.cell? ⟨gb462,0,none⟩ = some (.slice Ao52 t449.length co52):=(blk_cell BK462.out 0).trans rfl;have hcz203_1 : w202.cell? ⟨gb462,1,none⟩ = some (.slice Ao57 t452.length co57):=(blk_cell BK462.out 1).trans rfl;have hcz203_2 : w202.cell? ⟨gb462,2,none⟩ = some (.slice Ao58 t455.length co58):=(blk_cell BK462.out 2).trans rfl;have hcz203_3 : w202.cell? ⟨gb462,3,none⟩ = some (.slice Ao59 t458.length co59):=(blk_cell BK462.out 3).trans rfl;have hfz203_0:=blk_frozen BK462.out 0;have hfz203_1:=blk_frozen BK462.out 1;have hfz203_2:=blk_frozen BK462.out 2;have hfz203_3:=blk_frozen BK462.out 3)|((with_reducible refine gate_callee (f:=29) rfl ?_);refine goesL_ (some 90) rfl rfl Try.func29 (by kernel_rfl) rfl #[.agg #[.slice Ao52 t490.length co52,.slice Ao57 t491.length co57,.slice Ao58 t492.length co58,.slice Ao59 t493.length co59],.int .i64 1] rfl (by (try simp only [List.map_toArray,List.map_cons,List.map_nil]);first|done|(rw [show t490.length = t449.length from (Kd.S_reads' HO_463000.out).1.symm,show t491.length = t452.length from (Kd.R_reads' HO_463001.out).1.symm,show t492.length = t455.length from (Kd.R_reads' HO_463002.out).1.symm,show t493.length = t458.length from (Kd.R_reads' HO_463003.out).1.symm] <;> rfl)|rfl|(simp only [List.length_drop,List.length_take];rfl)) ?_;(with_reducible refine (laws_heldSpace.calls kj86 _ _ t490 _ _ t491 _ _ t492 _ _ t493 1 t494 _ ?side1 ?side2 ?side3 ?side4 ?side5 ?side6 ?side7 ?side8 A124.out).mono ?_);(case side1=>exact (Kd.S_reads' HO_463000.out).2.2);(case side2=>rw [show t490.length = t449.length from (Kd.S_reads' HO_463000.out).1.symm];exact (Kd.S_reads' HO_463000.out).2.1);(case side3=>exact (Kd.R_reads' HO_463001.out).2.2);(case side4=>rw [show t491.length = t452.length from (Kd.R_reads' HO_463001.out).1.symm];exact (Kd.R_reads' HO_463001.out).2.1);(case side5=>exact (Kd.R_reads' HO_463002.out).2.2);(case side6=>rw [show t492.length = t455.length from (Kd.R_reads' HO_463002.out).1.symm];exact (Kd.R_reads' HO_463002.out).2.1);(case side7=>exact (Kd.R_reads' HO_463003.out).2.2);(case side8=>rw [show t493.length = t458.length from (Kd.R_reads' HO_463003.out).1.symm];exact (Kd.R_reads' HO_463003.out).2.1);rintro e w204 ⟨rfl,hb⟩;refine ⟨_,rfl,?_⟩;replace HO_463000:=Aside0.mk (Kd.S_below HO_463000.out hb);replace HO_463001:=Aside0.mk (Kd.R_below HO_463001.out hb);replace HO_463002:=Aside0.mk (Kd.R_below HO_463002.out hb);replace HO_463003:=Aside0.mk (Kd.R_below HO_463003.out hb);replace BK402:=Aside0.mk (blk_below BK402.out hb);replace BK432:=Aside0.mk (blk_below BK432.out hb);replace BK462:=Aside0.mk (blk_below BK462.out hb);replace HB:=Aside0.mk (below_step HB.out hb);clear hb))
             go_ret
             exact ⟨by first|rfl|(simp [*,errW_none,errW_some] <;> rfl),by repeat (first|(with_reducible first|exact HB.out|apply below_alloc|apply pw_below_drewN|apply below_drew1|refine below_set ?_ GE402.out|refine below_set ?_ GE432.out|refine below_set ?_ GE462.out)|exact HB.out)⟩
       ·replace c84:=Bool.eq_false_iff.mpr c84
        subst c84
        have H1 : (some false) = some r:=by rw [if_neg (show ¬ (false = true) by decide)] at H;exact H
        clear H
        have H:=H1
        clear H1
        obtain rfl:=Option.some.inj H
        try go_wp2
        have n0_:=Aside0.mk (Kd.R_drew HO_11.out)
        have n1_:=Aside0.mk (Kd.S_drew HO_446000.out)
        have n2_:=Aside0.mk (Kd.R_drew HO_446001.out)
        have n3_:=Aside0.mk (Kd.R_drew HO_446002.out)
        have n4_:=Aside0.mk (Kd.R_drew HO_446003.out)
        have n5_:=Aside0.mk (blk_drew BK402.out)
        have n6_:=Aside0.mk (blk_drew BK432.out)
        have n7_:=Aside0.mk (blk_drew BK445.out)
        have n8_:=Aside0.mk (blk_drew BK462.out)
        have n9_:=Aside0.mk (below_drew1 HB.out)
        clear HO_11
        clear HO_446000
        clear HO_446001
        clear HO_446002
        clear HO_446003
        clear BK402
        clear BK432
        clear BK445
        clear BK462
        clear HB
        clear HO_433000
        clear HO_433001
        clear HO_433002
        clear HO_433003
        clear HO_463000
        clear HO_463001
        clear HO_463002
        clear HO_463003
        have HO_11:=n0_
        have HO_446000:=n1_
        have HO_446001:=n2_
        have HO_446002:=n3_
        have HO_446003:=n4_
        have BK402:=n5_
        have BK432:=n6_
        have BK445:=n7_
        have BK462:=n8_
        have HB:=n9_
        clear n0_ n1_ n2_ n3_ n4_ n5_ n6_ n7_ n8_ n9_
        refine start_ (n:=5) (S:=fun w'=>w'.cell? ⟨gb445,0,none⟩ = some (.slice Ao40 t433.length co40)∧w'.cell? ⟨gb445,1,none⟩ = some (.slice Ao44 t436.length co44)∧w'.cell? ⟨gb445,2,none⟩ = some (.slice Ao45 t439.length co45)∧w'.cell? ⟨gb445,3,none⟩ = some (.slice Ao46 t442.length co46)∧w'.cell? ⟨gb402,0,none⟩ = some (.slice A0_0 l0_0.length c0_0)∧w'.cell? ⟨gb402,1,none⟩ = some (.slice A0_1 l0_1.length c0_1)∧w'.cell? ⟨gb402,2,none⟩ = some (.slice A0_2 l0_2.length c0_2)∧w'.cell? ⟨gb402,3,none⟩ = some (.slice A0_3 l0_3.length c0_3)) (ds:=[]) #[false,false,false,false,false] (by kernel_rfl) rfl rfl ⟨(blk_cell BK445.out 0).trans rfl,(blk_cell BK445.out 1).trans rfl,(blk_cell BK445.out 2).trans rfl,(blk_cell BK445.out 3).trans rfl,(blk_cell BK402.out 0).trans rfl,(blk_cell BK402.out 1).trans rfl,(blk_cell BK402.out 2).trans rfl,(blk_cell BK402.out 3).trans rfl⟩ (fun hHeld=>?_)
        generalize wc.drew = w205 at HO_11 HO_446000 HO_446001 HO_446002 HO_446003 BK402 BK432 BK445 BK462 HB hHeld ⊢
        refine take_ (i:=0) (N:=some 56) (v:=?_) (a':=?_) #[true,false,false,false,false] rfl rfl (by kernel_rfl) (fun _ _ _ h=>h) (Or.inl ⟨by rfl,?_⟩) hHeld ?_ ?_
        rotate_left
        ·rintro w' ⟨s0,s1,s2,s3,s4,s5,s6,s7⟩
         go_simp
         with_reducible rfl
        rotate_left
        ·simp only [Act.put,List.setIfInBounds_toArray,List.set_cons_zero,List.set_cons_succ,i64_w,i32_w]
         rfl
        refine take_ (i:=1) (N:=some 57) (v:=?_) (a':=?_) #[true,true,false,false,false] rfl rfl (by kernel_rfl) (fun _ _ _ h=>h) (Or.inl ⟨by rfl,?_⟩) hHeld ?_ ?_
        rotate_left
        ·rintro w' ⟨s0,s1,s2,s3,s4,s5,s6,s7⟩
         go_simp
         with_reducible rfl
        rotate_left
        ·simp only [Act.put,List.setIfInBounds_toArray,List.set_cons_zero,List.set_cons_succ,i64_w,i32_w]
         rfl
        refine one_ (i:=2) (N:=some 58) #[true,true,true,false,false] rfl rfl (by kernel_rfl) (by decide) (fun K hK=>?_)
        refine goes_ Try.func12 (by kernel_rfl) rfl #[.agg #[.slice A0_0 l0_0.length c0_0,.slice A0_1 l0_1.length c0_1,.slice A0_2 l0_2.length c0_2,.slice A0_3 l0_3.length c0_3]] (by rfl) rfl rfl (by (try simp only [List.map_toArray,List.map_cons,List.map_nil]);first|done|rfl|(simp only [List.length_drop,List.length_take];rfl)) ?_
        with_reducible refine (laws_toSpace.calls kj16 _ _ l0_0 _ _ l0_1 _ _ l0_2 _ _ l0_3 t464 t467 t470 t473 _ ?side1 ?side2 ?side3 ?side4 ?side5 ?side6 ?side7 ?side8 A79.out).mono ?_
        (case side1=>exact (Kd.C_below HR0_0.out HB.out))
        (case side2=>exact HC0_0.out)
        (case side3=>exact (Kd.C_below HR0_1.out HB.out))
        (case side4=>exact HC0_1.out)
        (case side5=>exact (Kd.C_below HR0_2.out HB.out))
        (case side6=>exact HC0_2.out)
        (case side7=>exact (Kd.C_below HR0_3.out HB.out))
        (case side8=>exact HC0_3.out)
        rintro e w206 ⟨v465,v468,v471,v474,rfl,ho0,ho1,ho2,ho3,hb⟩
        refine ⟨_,rfl,?_⟩
        have n0_:=Aside0.mk (Kd.R_elder' HO_11.out (Kd.R_base ho1) hb)
        have n1_:=Aside0.mk (Kd.S_told (Kd.S_told (Kd.S_old HO_446000.out hb) (Kd.S_base ho0)) (Kd.R_base ho1))
        have n2_:=Aside0.mk (Kd.R_elder' HO_446001.out (Kd.R_base ho1) hb)
        have n3_:=Aside0.mk (Kd.R_mono (Kd.R_told (Kd.R_told (Kd.R_old HO_446002.out hb) (Kd.R_base ho2)) (Kd.R_base ho3)) (fun _ h_=>h_.1))
        have n4_:=Aside0.mk (Kd.R_mono (Kd.R_told (Kd.R_told (Kd.R_old HO_446003.out hb) (Kd.R_base ho2)) (Kd.R_base ho3)) (fun _ h_=>h_.1))
        have n5_:=Aside0.mk (Kd.S_lower (Kd.S_new' (Kd.S_new' (Kd.S_new' (Kd.S_mono (Kd.S_bound ho0) (fun k_ h_=>(⟨h_.1,(by first|exact h_.2.1|simpa only [World.size_setCell] using h_.2.1)⟩ : _∧w205.heap.size ≤ k_))) (Kd.R_lt HO_11.out)) (Kd.S_lt HO_446000.out)) (Kd.R_lt HO_446001.out)) (below_size HB.out))
        have n6_:=Aside0.mk (Kd.R_lower (Kd.R_new' (Kd.R_new' ho1 (Kd.R_lt HO_11.out)) (Kd.R_lt HO_446001.out)) (below_size HB.out))
        have n7_:=Aside0.mk (Kd.R_lower (Kd.R_new' (Kd.R_new' ho2 (Kd.R_lt HO_446002.out)) (Kd.R_lt HO_446003.out)) (below_size HB.out))
        have n8_:=Aside0.mk (Kd.R_lower (Kd.R_new' (Kd.R_new' ho3 (Kd.R_lt HO_446002.out)) (Kd.R_lt HO_446003.out)) (below_size HB.out))
        have n9_:=Aside0.mk (blk_below BK402.out hb)
        have n10_:=Aside0.mk (blk_below BK432.out hb)
        have n11_:=Aside0.mk (blk_below BK445.out hb)
        have n12_:=Aside0.mk (blk_below BK462.out hb)
        have n13_:=Aside0.mk (below_step HB.out hb)
        clear HO_11
        clear HO_446000
        clear HO_446001
        clear HO_446002
        clear HO_446003
        clear BK402
        clear BK432
        clear BK445
        clear BK462
        clear HB
        have HO_11:=n0_
        have HO_446000:=n1_
        have HO_446001:=n2_
        have HO_446002:=n3_
        have HO_446003:=n4_
        have HO466:=n5_
        have HO469:=n6_
        have HO472:=n7_
        have HO475:=n8_
        have BK402:=n9_
        have BK432:=n10_
        have BK445:=n11_
        have BK462:=n12_
        have HB:=n13_
        clear n0_ n1_ n2_ n3_ n4_ n5_ n6_ n7_ n8_ n9_ n10_ n11_ n12_ n13_
        (try clear hb)
        (try clear hb2)
        (try clear hk)
        (try clear hi)
        (try clear ho0)
        (try clear ho1)
        (try clear ho2)
        (try clear ho3)
        obtain ⟨Ao207,co207,eo207⟩:=Kd.S_slice HO466.out
        (first|subst eo207|(injection eo207 with f1_ f2_ f3_;have f4_:=f1_.symm;have f5_:=f3_.symm;clear f1_ f2_ f3_;subst f4_;subst f5_))
        obtain ⟨Ao208,co208,eo208⟩:=Kd.R_slice HO469.out
        (first|subst eo208|(injection eo208 with f1_ f2_ f3_;have f4_:=f1_.symm;have f5_:=f3_.symm;clear f1_ f2_ f3_;subst f4_;subst f5_))
        obtain ⟨Ao209,co209,eo209⟩:=Kd.R_slice HO472.out
        (first|subst eo209|(injection eo209 with f1_ f2_ f3_;have f4_:=f1_.symm;have f5_:=f3_.symm;clear f1_ f2_ f3_;subst f4_;subst f5_))
        obtain ⟨Ao210,co210,eo210⟩:=Kd.R_slice HO475.out
        (first|subst eo210|(injection eo210 with f1_ f2_ f3_;have f4_:=f1_.symm;have f5_:=f3_.symm;clear f1_ f2_ f3_;subst f4_;subst f5_))
        refine hK.out _ _ ⟨(blk_cell BK445.out 0).trans rfl,(blk_cell BK445.out 1).trans rfl,(blk_cell BK445.out 2).trans rfl,(blk_cell BK445.out 3).trans rfl,(blk_cell BK402.out 0).trans rfl,(blk_cell BK402.out 1).trans rfl,(blk_cell BK402.out 2).trans rfl,(blk_cell BK402.out 3).trans rfl⟩ (fun hHeld=>?_)
        clear hK K
        refine norm_ (a':=?_) ?_ ?_
        rotate_left
        ·show Act.put _ (some 58) _ = _
         simp only [Act.put,List.setIfInBounds_toArray,List.set_cons_zero,List.set_cons_succ,i64_w,i32_w]
         rfl
        refine one_ (i:=3) (N:=some 59) #[true,true,true,true,false] rfl rfl (by kernel_rfl) (by decide) (fun K hK=>?_)
        refine goes_ Try.func14 (by kernel_rfl) rfl #[.agg #[.slice Ao40 t433.length co40,.slice Ao44 t436.length co44,.slice Ao45 t439.length co45,.slice Ao46 t442.length co46],.agg #[.slice Ao207 t464.length co207,.slice Ao208 t467.length co208,.slice Ao209 t470.length co209,.slice Ao210 t473.length co210]] (by rfl) rfl rfl (by (try simp only [List.map_toArray,List.map_cons,List.map_nil]);first|done|rfl|(simp only [List.length_drop,List.length_take];rfl)) ?_
        with_reducible refine (laws_eqSpace.calls kj16 _ _ t433 _ _ t436 _ _ t439 _ _ t442 _ _ t464 _ _ t467 _ _ t470 _ _ t473 true _ ?side1 ?side2 ?side3 ?side4 ?side5 ?side6 ?side7 ?side8 ?side9 ?side10 ?side11 ?side12 ?side13 ?side14 ?side15 ?side16 A80.out).mono ?_
        (case side1=>exact (Kd.S_reads' HO_446000.out).2.2)
        (case side2=>exact (Kd.S_reads' HO_446000.out).2.1)
        (case side3=>exact (Kd.R_reads' HO_446001.out).2.2)
        (case side4=>exact (Kd.R_reads' HO_446001.out).2.1)
        (case side5=>exact (Kd.R_reads' HO_446002.out).2.2)
        (case side6=>exact (Kd.R_reads' HO_446002.out).2.1)
        (case side7=>exact (Kd.R_reads' HO_446003.out).2.2)
        (case side8=>exact (Kd.R_reads' HO_446003.out).2.1)
        (case side9=>exact (Kd.S_reads' HO466.out).2.2)
        (case side10=>exact (Kd.S_reads' HO466.out).2.1)
        (case side11=>exact (Kd.R_reads' HO469.out).2.2)
        (case side12=>exact (Kd.R_reads' HO469.out).2.1)
        (case side13=>exact (Kd.R_reads' HO472.out).2.2)
        (case side14=>exact (Kd.R_reads' HO472.out).2.1)
        (case side15=>exact (Kd.R_reads' HO475.out).2.2)
        (case side16=>exact (Kd.R_reads' HO475.out).2.1)
        rintro e w211 ⟨rfl,hb⟩
        refine ⟨_,rfl,?_⟩
        have n0_:=Aside0.mk (Kd.R_below HO_11.out hb)
        have n1_:=Aside0.mk (Kd.S_below HO_446000.out hb)
        have n2_:=Aside0.mk (Kd.R_below HO_446001.out hb)
        have n3_:=Aside0.mk (Kd.R_below HO_446002.out hb)
        have n4_:=Aside0.mk (Kd.R_below HO_446003.out hb)
        have n5_:=Aside0.mk (Kd.S_below HO466.out hb)
        have n6_:=Aside0.mk (Kd.R_below HO469.out hb)
        have n7_:=Aside0.mk (Kd.R_below HO472.out hb)
        have n8_:=Aside0.mk (Kd.R_below HO475.out hb)
        have n9_:=Aside0.mk (blk_below BK402.out hb)
        have n10_:=Aside0.mk (blk_below BK432.out hb)
        have n11_:=Aside0.mk (blk_below BK445.out hb)
        have n12_:=Aside0.mk (blk_below BK462.out hb)
        have n13_:=Aside0.mk (below_step HB.out hb)
        clear HO_11
        clear HO_446000
        clear HO_446001
        clear HO_446002
        clear HO_446003
        clear HO466
        clear HO469
        clear HO472
        clear HO475
        clear BK402
        clear BK432
        clear BK445
        clear BK462
        clear HB
        have HO_11:=n0_
        have HO_446000:=n1_
        have HO_446001:=n2_
        have HO_446002:=n3_
        have HO_446003:=n4_
        have HO466:=n5_
        have HO469:=n6_
        have HO472:=n7_
        have HO475:=n8_
        have BK402:=n9_
        have BK432:=n10_
        have BK445:=n11_
        have BK462:=n12_
        have HB:=n13_
        clear n0_ n1_ n2_ n3_ n4_ n5_ n6_ n7_ n8_ n9_ n10_ n11_ n12_ n13_
        (try clear hb)
        (try clear hb2)
        (try clear hk)
        (try clear hi)
        refine hK.out _ _ ⟨(blk_cell BK445.out 0).trans rfl,(blk_cell BK445.out 1).trans rfl,(blk_cell BK445.out 2).trans rfl,(blk_cell BK445.out 3).trans rfl,(blk_cell BK402.out 0).trans rfl,(blk_cell BK402.out 1).trans rfl,(blk_cell BK402.out 2).trans rfl,(blk_cell BK402.out 3).trans rfl⟩ (fun hHeld=>?_)
        clear hK K
        refine norm_ (a':=?_) ?_ ?_
        rotate_left
        ·show Act.put _ (some 59) _ = _
         simp only [Act.put,List.setIfInBounds_toArray,List.set_cons_zero,List.set_cons_succ,i64_w,i32_w]
         rfl
        refine pure_ (i:=4) (N:=some 60) (v:=?_) (a':=?_) #[true,true,true,true,true] rfl rfl (by kernel_rfl) (fun _ _ _ h=>h) (Or.inl ⟨by rfl,?_⟩) ?_ ?_
        rotate_left
        ·intro w'
         go_simp
         with_reducible rfl
        rotate_left
        ·simp only [Act.put,List.setIfInBounds_toArray,List.set_cons_zero,List.set_cons_succ,i64_w,i32_w]
         rfl
        refine done_ (by kernel_rfl) ?_
        try go_wp2_with (first|((with_reducible refine gate_callee (f:=31) rfl ?_);refine goesL_ (some 63) rfl rfl Try.func31 (by kernel_rfl) rfl #[.slice A2 l2.length c2] rfl (by (try simp only [List.map_toArray,List.map_cons,List.map_nil]);first|done|rfl) ?_;(with_reducible refine (laws_toByteS.calls kj16 _ _ l2 t477 _ ?side1 ?side2 A82.out).mono ?_);(case side1=>exact (Kd.C_below HR2.out HB.out));(case side2=>exact HC2.out);rintro e w212 ⟨v478,rfl,ho0,hb⟩;refine ⟨_,rfl,?_⟩;have HO479:=Aside0.mk (Kd.R_lower (Kd.R_new' (Kd.R_new' (Kd.R_new' ho0 (Kd.R_lt HO_11.out)) (Kd.R_lt HO_446001.out)) (Kd.R_lt HO469.out)) (below_size HB.out));replace HO_11:=Aside0.mk (Kd.R_elder' HO_11.out (Kd.R_base ho0) hb);replace BK402:=Aside0.mk (blk_below BK402.out hb);replace BK432:=Aside0.mk (blk_below BK432.out hb);replace BK445:=Aside0.mk (blk_below BK445.out hb);replace BK462:=Aside0.mk (blk_below BK462.out hb);replace HB:=Aside0.mk (below_step HB.out hb);clear HO_446000 HO_446001 HO_446002 HO_446003 HO466 HO469 HO472 HO475;clear hb ho0;obtain ⟨Ao213,co213,eo213⟩:=Kd.R_slice HO479.out;subst eo213)|((with_reducible refine gate_callee (f:=33) rfl ?_);refine goesL_ (some 64) rfl rfl Try.func33 (by kernel_rfl) rfl #[.slice Ao49 t446.length co49,.slice Ao213 t477.length co213] rfl (by (try simp only [List.map_toArray,List.map_cons,List.map_nil]);first|done|rfl) ?_;(with_reducible refine (laws_eqByteS.calls kj16 _ _ t446 _ _ t477 false _ ?side1 ?side2 ?side3 ?side4 A83.out).mono ?_);(case side1=>exact (Kd.R_reads' HO_11.out).2.2);(case side2=>exact (Kd.R_reads' HO_11.out).2.1);(case side3=>exact (Kd.R_reads' HO479.out).2.2);(case side4=>exact (Kd.R_reads' HO479.out).2.1);rintro e w' ⟨rfl,⟨nd,rfl⟩⟩;refine ⟨_,rfl,?_⟩))
        go_ret
        exact ⟨by first|rfl|(simp [*,errW_none,errW_some] <;> rfl),by repeat (first|(with_reducible first|exact HB.out|apply below_alloc|apply pw_below_drewN|apply below_drew1|refine below_set ?_ GE402.out|refine below_set ?_ GE432.out|refine below_set ?_ GE445.out|refine below_set ?_ GE462.out)|exact HB.out)⟩
      ·replace c81:=Bool.eq_false_iff.mpr c81
       subst c81
       have H1 : (some false) = some r:=by rw [if_neg (show ¬ (false = true) by decide)] at H;exact H
       clear H
       have H:=H1
       clear H1
       obtain rfl:=Option.some.inj H
       try go_wp2
       have n0_:=Aside0.mk (Kd.S_drew HO_446000.out)
       have n1_:=Aside0.mk (Kd.R_drew HO_446001.out)
       have n2_:=Aside0.mk (Kd.R_drew HO_446002.out)
       have n3_:=Aside0.mk (Kd.R_drew HO_446003.out)
       have n4_:=Aside0.mk (blk_drew BK402.out)
       have n5_:=Aside0.mk (blk_drew BK432.out)
       have n6_:=Aside0.mk (blk_drew BK445.out)
       have n7_:=Aside0.mk (blk_drew BK462.out)
       have n8_:=Aside0.mk (below_drew1 HB.out)
       clear HO_446000
       clear HO_446001
       clear HO_446002
       clear HO_446003
       clear BK402
       clear BK432
       clear BK445
       clear BK462
       clear HB
       clear HO_11
       clear HO_433000
       clear HO_433001
       clear HO_433002
       clear HO_433003
       clear HO_463000
       clear HO_463001
       clear HO_463002
       clear HO_463003
       have HO_446000:=n0_
       have HO_446001:=n1_
       have HO_446002:=n2_
       have HO_446003:=n3_
       have BK402:=n4_
       have BK432:=n5_
       have BK445:=n6_
       have BK462:=n7_
       have HB:=n8_
       clear n0_ n1_ n2_ n3_ n4_ n5_ n6_ n7_ n8_
       refine start_ (n:=5) (S:=fun w'=>w'.cell? ⟨gb445,0,none⟩ = some (.slice Ao40 t433.length co40)∧w'.cell? ⟨gb445,1,none⟩ = some (.slice Ao44 t436.length co44)∧w'.cell? ⟨gb445,2,none⟩ = some (.slice Ao45 t439.length co45)∧w'.cell? ⟨gb445,3,none⟩ = some (.slice Ao46 t442.length co46)∧w'.cell? ⟨gb402,0,none⟩ = some (.slice A0_0 l0_0.length c0_0)∧w'.cell? ⟨gb402,1,none⟩ = some (.slice A0_1 l0_1.length c0_1)∧w'.cell? ⟨gb402,2,none⟩ = some (.slice A0_2 l0_2.length c0_2)∧w'.cell? ⟨gb402,3,none⟩ = some (.slice A0_3 l0_3.length c0_3)) (ds:=[]) #[false,false,false,false,false] (by kernel_rfl) rfl rfl ⟨(blk_cell BK445.out 0).trans rfl,(blk_cell BK445.out 1).trans rfl,(blk_cell BK445.out 2).trans rfl,(blk_cell BK445.out 3).trans rfl,(blk_cell BK402.out 0).trans rfl,(blk_cell BK402.out 1).trans rfl,(blk_cell BK402.out 2).trans rfl,(blk_cell BK402.out 3).trans rfl⟩ (fun hHeld=>?_)
       generalize wc.drew = w214 at HO_446000 HO_446001 HO_446002 HO_446003 BK402 BK432 BK445 BK462 HB hHeld ⊢
       refine take_ (i:=0) (N:=some 56) (v:=?_) (a':=?_) #[true,false,false,false,false] rfl rfl (by kernel_rfl) (fun _ _ _ h=>h) (Or.inl ⟨by rfl,?_⟩) hHeld ?_ ?_
       rotate_left
       ·rintro w' ⟨s0,s1,s2,s3,s4,s5,s6,s7⟩
        go_simp
        with_reducible rfl
       rotate_left
       ·simp only [Act.put,List.setIfInBounds_toArray,List.set_cons_zero,List.set_cons_succ,i64_w,i32_w]
        rfl
       refine take_ (i:=1) (N:=some 57) (v:=?_) (a':=?_) #[true,true,false,false,false] rfl rfl (by kernel_rfl) (fun _ _ _ h=>h) (Or.inl ⟨by rfl,?_⟩) hHeld ?_ ?_
       rotate_left
       ·rintro w' ⟨s0,s1,s2,s3,s4,s5,s6,s7⟩
        go_simp
        with_reducible rfl
       rotate_left
       ·simp only [Act.put,List.setIfInBounds_toArray,List.set_cons_zero,List.set_cons_succ,i64_w,i32_w]
        rfl
       refine one_ (i:=2) (N:=some 58) #[true,true,true,false,false] rfl rfl (by kernel_rfl) (by decide) (fun K hK=>?_)
       refine goes_ Try.func12 (by kernel_rfl) rfl #[.agg #[.slice A0_0 l0_0.length c0_0,.slice A0_1 l0_1.length c0_1,.slice A0_2 l0_2.length c0_2,.slice A0_3 l0_3.length c0_3]] (by rfl) rfl rfl (by (try simp only [List.map_toArray,List.map_cons,List.map_nil]);first|done|rfl|(simp only [List.length_drop,List.length_take];rfl)) ?_
       with_reducible refine (laws_toSpace.calls kj16 _ _ l0_0 _ _ l0_1 _ _ l0_2 _ _ l0_3 t464 t467 t470 t473 _ ?side1 ?side2 ?side3 ?side4 ?side5 ?side6 ?side7 ?side8 A79.out).mono ?_
       (case side1=>exact (Kd.C_below HR0_0.out HB.out))
       (case side2=>exact HC0_0.out)
       (case side3=>exact (Kd.C_below HR0_1.out HB.out))
       (case side4=>exact HC0_1.out)
       (case side5=>exact (Kd.C_below HR0_2.out HB.out))
       (case side6=>exact HC0_2.out)
       (case side7=>exact (Kd.C_below HR0_3.out HB.out))
       (case side8=>exact HC0_3.out)
       rintro e w215 ⟨v465,v468,v471,v474,rfl,ho0,ho1,ho2,ho3,hb⟩
       refine ⟨_,rfl,?_⟩
       have n0_:=Aside0.mk (Kd.S_told (Kd.S_told (Kd.S_old HO_446000.out hb) (Kd.S_base ho0)) (Kd.R_base ho1))
       have n1_:=Aside0.mk (Kd.R_elder' HO_446001.out (Kd.R_base ho1) hb)
       have n2_:=Aside0.mk (Kd.R_mono (Kd.R_told (Kd.R_told (Kd.R_old HO_446002.out hb) (Kd.R_base ho2)) (Kd.R_base ho3)) (fun _ h_=>h_.1))
       have n3_:=Aside0.mk (Kd.R_mono (Kd.R_told (Kd.R_told (Kd.R_old HO_446003.out hb) (Kd.R_base ho2)) (Kd.R_base ho3)) (fun _ h_=>h_.1))
       have n4_:=Aside0.mk (Kd.S_lower (Kd.S_new' (Kd.S_new' (Kd.S_mono (Kd.S_bound ho0) (fun k_ h_=>(⟨h_.1,(by first|exact h_.2.1|simpa only [World.size_setCell] using h_.2.1)⟩ : _∧w214.heap.size ≤ k_))) (Kd.S_lt HO_446000.out)) (Kd.R_lt HO_446001.out)) (below_size HB.out))
       have n5_:=Aside0.mk (Kd.R_lower (Kd.R_new' ho1 (Kd.R_lt HO_446001.out)) (below_size HB.out))
       have n6_:=Aside0.mk (Kd.R_lower (Kd.R_new' (Kd.R_new' ho2 (Kd.R_lt HO_446002.out)) (Kd.R_lt HO_446003.out)) (below_size HB.out))
       have n7_:=Aside0.mk (Kd.R_lower (Kd.R_new' (Kd.R_new' ho3 (Kd.R_lt HO_446002.out)) (Kd.R_lt HO_446003.out)) (below_size HB.out))
       have n8_:=Aside0.mk (blk_below BK402.out hb)
       have n9_:=Aside0.mk (blk_below BK432.out hb)
       have n10_:=Aside0.mk (blk_below BK445.out hb)
       have n11_:=Aside0.mk (blk_below BK462.out hb)
       have n12_:=Aside0.mk (below_step HB.out hb)
       clear HO_446000
       clear HO_446001
       clear HO_446002
       clear HO_446003
       clear BK402
       clear BK432
       clear BK445
       clear BK462
       clear HB
       have HO_446000:=n0_
       have HO_446001:=n1_
       have HO_446002:=n2_
       have HO_446003:=n3_
       have HO466:=n4_
       have HO469:=n5_
       have HO472:=n6_
       have HO475:=n7_
       have BK402:=n8_
       have BK432:=n9_
       have BK445:=n10_
       have BK462:=n11_
       have HB:=n12_
       clear n0_ n1_ n2_ n3_ n4_ n5_ n6_ n7_ n8_ n9_ n10_ n11_ n12_
       (try clear hb)
       (try clear hb2)
       (try clear hk)
       (try clear hi)
       (try clear ho0)
       (try clear ho1)
       (try clear ho2)
       (try clear ho3)
       obtain ⟨Ao216,co216,eo216⟩:=Kd.S_slice HO466.out
       (first|subst eo216|(injection eo216 with f1_ f2_ f3_;have f4_:=f1_.symm;have f5_:=f3_.symm;clear f1_ f2_ f3_;subst f4_;subst f5_))
       obtain ⟨Ao217,co217,eo217⟩:=Kd.R_slice HO469.out
       (first|subst eo217|(injection eo217 with f1_ f2_ f3_;have f4_:=f1_.symm;have f5_:=f3_.symm;clear f1_ f2_ f3_;subst f4_;subst f5_))
       obtain ⟨Ao218,co218,eo218⟩:=Kd.R_slice HO472.out
       (first|subst eo218|(injection eo218 with f1_ f2_ f3_;have f4_:=f1_.symm;have f5_:=f3_.symm;clear f1_ f2_ f3_;subst f4_;subst f5_))
       obtain ⟨Ao219,co219,eo219⟩:=Kd.R_slice HO475.out
       (first|subst eo219|(injection eo219 with f1_ f2_ f3_;have f4_:=f1_.symm;have f5_:=f3_.symm;clear f1_ f2_ f3_;subst f4_;subst f5_))
       refine hK.out _ _ ⟨(blk_cell BK445.out 0).trans rfl,(blk_cell BK445.out 1).trans rfl,(blk_cell BK445.out 2).trans rfl,(blk_cell BK445.out 3).trans rfl,(blk_cell BK402.out 0).trans rfl,(blk_cell BK402.out 1).trans rfl,(blk_cell BK402.out 2).trans rfl,(blk_cell BK402.out 3).trans rfl⟩ (fun hHeld=>?_)
       clear hK K
       refine norm_ (a':=?_) ?_ ?_
       rotate_left
       ·show Act.put _ (some 58) _ = _
        simp only [Act.put,List.setIfInBounds_toArray,List.set_cons_zero,List.set_cons_succ,i64_w,i32_w]
        rfl
       refine one_ (i:=3) (N:=some 59) #[true,true,true,true,false] rfl rfl (by kernel_rfl) (by decide) (fun K hK=>?_)
       refine goes_ Try.func14 (by kernel_rfl) rfl #[.agg #[.slice Ao40 t433.length co40,.slice Ao44 t436.length co44,.slice Ao45 t439.length co45,.slice Ao46 t442.length co46],.agg #[.slice Ao216 t464.length co216,.slice Ao217 t467.length co217,.slice Ao218 t470.length co218,.slice Ao219 t473.length co219]] (by rfl) rfl rfl (by (try simp only [List.map_toArray,List.map_cons,List.map_nil]);first|done|rfl|(simp only [List.length_drop,List.length_take];rfl)) ?_
       with_reducible refine (laws_eqSpace.calls kj16 _ _ t433 _ _ t436 _ _ t439 _ _ t442 _ _ t464 _ _ t467 _ _ t470 _ _ t473 false _ ?side1 ?side2 ?side3 ?side4 ?side5 ?side6 ?side7 ?side8 ?side9 ?side10 ?side11 ?side12 ?side13 ?side14 ?side15 ?side16 A80.out).mono ?_
       (case side1=>exact (Kd.S_reads' HO_446000.out).2.2)
       (case side2=>exact (Kd.S_reads' HO_446000.out).2.1)
       (case side3=>exact (Kd.R_reads' HO_446001.out).2.2)
       (case side4=>exact (Kd.R_reads' HO_446001.out).2.1)
       (case side5=>exact (Kd.R_reads' HO_446002.out).2.2)
       (case side6=>exact (Kd.R_reads' HO_446002.out).2.1)
       (case side7=>exact (Kd.R_reads' HO_446003.out).2.2)
       (case side8=>exact (Kd.R_reads' HO_446003.out).2.1)
       (case side9=>exact (Kd.S_reads' HO466.out).2.2)
       (case side10=>exact (Kd.S_reads' HO466.out).2.1)
       (case side11=>exact (Kd.R_reads' HO469.out).2.2)
       (case side12=>exact (Kd.R_reads' HO469.out).2.1)
       (case side13=>exact (Kd.R_reads' HO472.out).2.2)
       (case side14=>exact (Kd.R_reads' HO472.out).2.1)
       (case side15=>exact (Kd.R_reads' HO475.out).2.2)
       (case side16=>exact (Kd.R_reads' HO475.out).2.1)
       rintro e w220 ⟨rfl,hb⟩
       refine ⟨_,rfl,?_⟩
       have n0_:=Aside0.mk (Kd.S_below HO_446000.out hb)
       have n1_:=Aside0.mk (Kd.R_below HO_446001.out hb)
       have n2_:=Aside0.mk (Kd.R_below HO_446002.out hb)
       have n3_:=Aside0.mk (Kd.R_below HO_446003.out hb)
       have n4_:=Aside0.mk (Kd.S_below HO466.out hb)
       have n5_:=Aside0.mk (Kd.R_below HO469.out hb)
       have n6_:=Aside0.mk (Kd.R_below HO472.out hb)
       have n7_:=Aside0.mk (Kd.R_below HO475.out hb)
       have n8_:=Aside0.mk (blk_below BK402.out hb)
       have n9_:=Aside0.mk (blk_below BK432.out hb)
       have n10_:=Aside0.mk (blk_below BK445.out hb)
       have n11_:=Aside0.mk (blk_below BK462.out hb)
       have n12_:=Aside0.mk (below_step HB.out hb)
       clear HO_446000
       clear HO_446001
       clear HO_446002
       clear HO_446003
       clear HO466
       clear HO469
       clear HO472
       clear HO475
       clear BK402
       clear BK432
       clear BK445
       clear BK462
       clear HB
       have HO_446000:=n0_
       have HO_446001:=n1_
       have HO_446002:=n2_
       have HO_446003:=n3_
       have HO466:=n4_
       have HO469:=n5_
       have HO472:=n6_
       have HO475:=n7_
       have BK402:=n8_
       have BK432:=n9_
       have BK445:=n10_
       have BK462:=n11_
       have HB:=n12_
       clear n0_ n1_ n2_ n3_ n4_ n5_ n6_ n7_ n8_ n9_ n10_ n11_ n12_
       (try clear hb)
       (try clear hb2)
       (try clear hk)
       (try clear hi)
       refine hK.out _ _ ⟨(blk_cell BK445.out 0).trans rfl,(blk_cell BK445.out 1).trans rfl,(blk_cell BK445.out 2).trans rfl,(blk_cell BK445.out 3).trans rfl,(blk_cell BK402.out 0).trans rfl,(blk_cell BK402.out 1).trans rfl,(blk_cell BK402.out 2).trans rfl,(blk_cell BK402.out 3).trans rfl⟩ (fun hHeld=>?_)
       clear hK K
       refine norm_ (a':=?_) ?_ ?_
       rotate_left
       ·show Act.put _ (some 59) _ = _
        simp only [Act.put,List.setIfInBounds_toArray,List.set_cons_zero,List.set_cons_succ,i64_w,i32_w]
        rfl
       refine pure_ (i:=4) (N:=some 60) (v:=?_) (a':=?_) #[true,true,true,true,true] rfl rfl (by kernel_rfl) (fun _ _ _ h=>h) (Or.inl ⟨by rfl,?_⟩) ?_ ?_
       rotate_left
       ·intro w'
        go_simp
        with_reducible rfl
       rotate_left
       ·simp only [Act.put,List.setIfInBounds_toArray,List.set_cons_zero,List.set_cons_succ,i64_w,i32_w]
        rfl
       refine done_ (by kernel_rfl) ?_
       try go_wp2
       go_ret
       exact ⟨by first|rfl|(simp [*,errW_none,errW_some] <;> rfl),by repeat (first|(with_reducible first|exact HB.out|apply below_alloc|apply pw_below_drewN|apply below_drew1|refine below_set ?_ GE402.out|refine below_set ?_ GE432.out|refine below_set ?_ GE445.out|refine below_set ?_ GE462.out)|exact HB.out)⟩

end Go.Proofs.Ytlphbpaojcdjaaa.PFnExactPutIn
