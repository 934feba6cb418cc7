-- Written by a program of this session over the print of the kit (wip/t/patch_print.py).
import Derived.Test.YtebmncdjlmnbnaaPFnExactComposeChangesx0
import Derived.Test.YtebmncdjlmnbnaaPFnExactComposeChangesx5
import Derived.Test.YtebmncdjlmnbnaaPFnExactComposeChangesx7
namespace Go.Proofs.Ytebmncdjlmnbnaa.PFnExactComposeChanges
open Go.RowKit Go.Proofs.YtebmncdjlmnbnaaW.PrintWords Go.Proofs.YtebmncdjlmnbnaaW.PrintLast Go.Proofs.YtebmncdjlmnbnaaW.PrintMore
attribute [local go_sem] max2_int min2_int max_two min_two max_three min_three max_four min_four   -- for this text's walks alone
set_option linter.unusedVariables false
set_option linter.unusedSimpArgs false

/-! ### spec_l1Compose: function 76 -/
mutual
def spec_l1Compose.l0 : Nat → Int → List ByteArray → Int → Int → List Bool → List ByteArray → List Bool → List ByteArray → List Bool → List ByteArray → Option ((List (S74)))
 | 0,_,_,_,_,_,_,_,_,_,_=>none
 | k + 1,x8,x29,x30,x31,x189000,x189001,x196000,x196001,x200000,x200001=>if x31 < x30 then (if 0 ≤ x31 then (if x31 < (x29.length : Int) then (spec_l1Compose.l1 k x8 x31 (rdOf ByteArray.empty x29 x31) 0 x29 x30 x31 x189000 x189001 x196000 x196001 x200000 x200001) else (none)) else (none)) else ((spec_l1Close.f k x200000 x200001).bind fun t202=>(some t202))
def spec_l1Compose.l1 : Nat → Int → Int → ByteArray → Int → List ByteArray → Int → Int → List Bool → List ByteArray → List Bool → List ByteArray → List Bool → List ByteArray → Option ((List (S74)))
 | 0,_,_,_,_,_,_,_,_,_,_,_,_,_=>none
 | k + 1,x8,x9,x10,x11,x29,x30,x31,x189000,x189001,x196000,x196001,x200000,x200001=>if x11 < (x10.size : Int) then (if 0 ≤ x8 then (if x8 < (x196000.length : Int) then (if rdOf false x196000 x8 = true then (if 0 ≤ x9 then (if x9 < (x200001.length : Int) then (if 0 ≤ x11 then (if x11 ≤ (wrap64 (x11 + 1)) then (if (wrap64 (x11 + 1)) ≤ (x10.size : Int) then (if (rdOf ByteArray.empty x200001 x9).size + (x10.extract (x11 : Int).toNat ((wrap64 (x11 + 1)) : Int).toNat).size ≤ 9223372036854775807 then ((some (x200001.set (x9 : Int).toNat ((rdOf ByteArray.empty x200001 x9) ++ (x10.extract (x11 : Int).toNat ((wrap64 (x11 + 1)) : Int).toNat)) : List ByteArray)).bind fun y208=>(if 0 ≤ (wrap64 (x8 + 1)) then (if (wrap64 (x8 + 1)) < (x196001.length : Int) then (if (rdOf ByteArray.empty y208 x9).size + (rdOf ByteArray.empty x196001 (wrap64 (x8 + 1))).size ≤ 9223372036854775807 then (spec_l1Compose.l1 k (wrap64 (x8 + 1)) x9 x10 (wrap64 (x11 + 1)) x29 x30 x31 x189000 x189001 x196000 x196001 x200000 (y208.set (x9 : Int).toNat ((rdOf ByteArray.empty y208 x9) ++ (rdOf ByteArray.empty x196001 (wrap64 (x8 + 1)))))) else (none)) else (none)) else (none))) else (none)) else (none)) else (none)) else (none)) else (none)) else (none)) else (if 0 ≤ x9 then (if x9 < (x200001.length : Int) then (if 0 ≤ (wrap64 (x8 + 1)) then (if (wrap64 (x8 + 1)) < (x196001.length : Int) then (if (rdOf ByteArray.empty x200001 x9).size + (rdOf ByteArray.empty x196001 (wrap64 (x8 + 1))).size ≤ 9223372036854775807 then (spec_l1Compose.l1 k (wrap64 (x8 + 1)) x9 x10 (wrap64 (x11 + 1)) x29 x30 x31 x189000 x189001 x196000 x196001 x200000 (x200001.set (x9 : Int).toNat ((rdOf ByteArray.empty x200001 x9) ++ (rdOf ByteArray.empty x196001 (wrap64 (x8 + 1)))))) else (none)) else (none)) else (none)) else (none)) else (none))) else (none)) else (none)) else (if x9 = (x189000.length : Int) then ((spec_l1Close.f k x200000 x200001).bind fun t215=>(some t215)) else (if 0 ≤ x9 then (if x9 < (x189000.length : Int) then (if rdOf false x189000 x9 = true then (if 0 ≤ x8 then (if x8 < (x196000.length : Int) then (if x200000.length < 140737488355328 then (if 0 ≤ (wrap64 (x8 + 1)) then (if (wrap64 (x8 + 1)) < (x196001.length : Int) then (if 0 ≤ (wrap64 (x9 + 1)) then (if (wrap64 (x9 + 1)) < (x200001.length : Int) then (spec_l1Compose.l0 k (wrap64 (x8 + 1)) x29 x30 (wrap64 (x31 + 1)) x189000 x189001 x196000 x196001 (x200000 ++ [rdOf false x196000 x8]) (x200001.set ((wrap64 (x9 + 1)) : Int).toNat (rdOf ByteArray.empty x196001 (wrap64 (x8 + 1))))) else (none)) else (none)) else (none)) else (none)) else (none)) else (none)) else (none)) else (if x200000.length < 140737488355328 then (spec_l1Compose.l0 k x8 x29 x30 (wrap64 (x31 + 1)) x189000 x189001 x196000 x196001 (x200000 ++ [false]) x200001) else (none))) else (none)) else (none)))
end
def spec_l1Compose.f (k : Nat) (l0 : List (S74)) (l1 : List (S74)) : Option ((List (S74))):=(spec_l1Open.f k l0).bind fun bt182=>((spec_l1Open.f k l1).bind fun bt189=>(if 0 ≤ (bt182.2.length : Int) then (if ((bt182.2.length : Int) : Int).toNat ≤ 17592186044416 then ((some (List.replicate ((bt182.2.length : Int) : Int).toNat (⟨#[]⟩ : ByteArray) : List ByteArray)).bind fun y196=>(if 0 < (bt189.2.length : Int) then (if 0 < (y196.length : Int) then (spec_l1Compose.l0 k 0 bt182.2 (bt182.2.length : Int) 0 bt182.1 bt182.2 bt189.1 bt189.2 ([] : List Bool) (y196.set (0 : Int).toNat (rdOf ByteArray.empty bt189.2 0))) else (none)) else (none))) else (none)) else (none)))
theorem spec_l1Compose.mono_l : ∀ k,(∀ y0 y1 y2 y3 y4 y5 y6 y7 y8 y9,LeO (spec_l1Compose.l0 k y0 y1 y2 y3 y4 y5 y6 y7 y8 y9) (spec_l1Compose.l0 (k + 1) y0 y1 y2 y3 y4 y5 y6 y7 y8 y9))∧(∀ y0 y1 y2 y3 y4 y5 y6 y7 y8 y9 y10 y11 y12,LeO (spec_l1Compose.l1 k y0 y1 y2 y3 y4 y5 y6 y7 y8 y9 y10 y11 y12) (spec_l1Compose.l1 (k + 1) y0 y1 y2 y3 y4 y5 y6 y7 y8 y9 y10 y11 y12))
 | 0=>⟨fun _ _ _ _ _ _ _ _ _ _ r h=>by simp [spec_l1Compose.l0] at h,fun _ _ _ _ _ _ _ _ _ _ _ _ _ r h=>by simp [spec_l1Compose.l1] at h⟩
 | k + 1=>by
  obtain ⟨ih0,ih1⟩:=spec_l1Compose.mono_l k
  refine ⟨?_,?_⟩
  ·intro y0 y1 y2 y3 y4 y5 y6 y7 y8 y9
   unfold spec_l1Compose.l0
   repeat' first
   | (with_reducible exact ih0 _ _ _ _ _ _ _ _ _ _)
   | (with_reducible exact ih1 _ _ _ _ _ _ _ _ _ _ _ _ _)
   | (with_reducible exact spec_l1Close.mono _ _ _)
   | (with_reducible exact spec_l1Open.mono _ _)
   | (with_reducible exact LeO.refl _)
   | (with_reducible exact LeO.none _)
   | (with_reducible refine LeO.ite ?_ ?_)
   | (with_reducible refine LeO.bind ?_ (fun _=>?_))
   | exact ih0 _ _ _ _ _ _ _ _ _ _
   | exact ih1 _ _ _ _ _ _ _ _ _ _ _ _ _
   | exact spec_l1Close.mono _ _ _
   | exact spec_l1Open.mono _ _
   | exact LeO.none _
   | refine LeO.ite ?_ ?_
   | refine LeO.bind ?_ (fun _=>?_)
  ·intro y0 y1 y2 y3 y4 y5 y6 y7 y8 y9 y10 y11 y12
   unfold spec_l1Compose.l1
   repeat' first
   | (with_reducible exact ih0 _ _ _ _ _ _ _ _ _ _)
   | (with_reducible exact ih1 _ _ _ _ _ _ _ _ _ _ _ _ _)
   | (with_reducible exact spec_l1Close.mono _ _ _)
   | (with_reducible exact spec_l1Open.mono _ _)
   | (with_reducible exact LeO.refl _)
   | (with_reducible exact LeO.none _)
   | (with_reducible refine LeO.ite ?_ ?_)
   | (with_reducible refine LeO.bind ?_ (fun _=>?_))
   | exact ih0 _ _ _ _ _ _ _ _ _ _
   | exact ih1 _ _ _ _ _ _ _ _ _ _ _ _ _
   | exact spec_l1Close.mono _ _ _
   | exact spec_l1Open.mono _ _
   | exact LeO.none _
   | refine LeO.ite ?_ ?_
   | refine LeO.bind ?_ (fun _=>?_)
theorem spec_l1Compose.mono : ∀ a0 a1 k,LeO (spec_l1Compose.f k a0 a1) (spec_l1Compose.f (k + 1) a0 a1):=by
 intro a0 a1 k
 obtain ⟨ih0,ih1⟩:=spec_l1Compose.mono_l k
 unfold spec_l1Compose.f
 repeat' first
   | (with_reducible exact ih0 _ _ _ _ _ _ _ _ _ _)
   | (with_reducible exact ih1 _ _ _ _ _ _ _ _ _ _ _ _ _)
   | (with_reducible exact spec_l1Close.mono _ _ _)
   | (with_reducible exact spec_l1Open.mono _ _)
   | (with_reducible exact LeO.refl _)
   | (with_reducible exact LeO.none _)
   | (with_reducible refine LeO.ite ?_ ?_)
   | (with_reducible refine LeO.bind ?_ (fun _=>?_))
   | exact ih0 _ _ _ _ _ _ _ _ _ _
   | exact ih1 _ _ _ _ _ _ _ _ _ _ _ _ _
   | exact spec_l1Close.mono _ _ _
   | exact spec_l1Open.mono _ _
   | exact LeO.none _
   | refine LeO.ite ?_ ?_
   | refine LeO.bind ?_ (fun _=>?_)
def spec_l1Compose.T5 : Bool × List (List Nat × List Nat):=(true,[([],[]),([0],[0]),([],[]),([2],[2]),([3],[3]),([4],[4]),([1,0,1,2,3,4,5],[1]),([6,5,0,1,2,3,4,5],[5,6])])
def spec_l1Compose.B5 : List Nat:=[0,1,0,4,12,28,63,127]
theorem spec_l1Compose.tab5 : rtab .any (opsOf Try.f76 5) = spec_l1Compose.T5:=by kernel_rfl
theorem spec_l1Compose.bits5 : waitsOk spec_l1Compose.T5.2 spec_l1Compose.B5 = true:=by kernel_rfl
def spec_l1Compose.T13 : Bool × List (List Nat × List Nat):=(true,[([],[]),([0],[0]),([],[]),([1,2],[1,2]),([3],[3]),([],[]),([],[]),([],[]),([7],[7]),([5,6,8],[5,6,8]),([4,9],[4,9]),([1,2,0,1,2,3,4,5,6,7,8,9,10],[1,2]),([11,10,0,1,2,3,4,5,6,7,8,9,10],[10,11])])
def spec_l1Compose.B13 : List Nat:=[0,1,0,7,15,0,0,0,128,480,1023,2047,4095]
theorem spec_l1Compose.tab13 : rtab .any (opsOf Try.f76 13) = spec_l1Compose.T13:=by kernel_rfl
theorem spec_l1Compose.bits13 : waitsOk spec_l1Compose.T13.2 spec_l1Compose.B13 = true:=by kernel_rfl
def spec_l1Compose.T15 : Bool × List (List Nat × List Nat):=(true,[([],[]),([0],[0]),([],[]),([1,2],[1,2]),([3],[3]),([],[]),([5],[5]),([],[]),([6,7],[6,7]),([8],[8]),([4,9],[4,9]),([1,2,0,1,2,3,4,5,6,7,8,9,10],[1,2]),([11,10,0,1,2,3,4,5,6,7,8,9,10],[10,11])])
def spec_l1Compose.B15 : List Nat:=[0,1,0,7,15,0,32,0,224,480,1023,2047,4095]
theorem spec_l1Compose.tab15 : rtab .any (opsOf Try.f76 15) = spec_l1Compose.T15:=by kernel_rfl
theorem spec_l1Compose.bits15 : waitsOk spec_l1Compose.T15.2 spec_l1Compose.B15 = true:=by kernel_rfl
def spec_l1Compose.T19 : Bool × List (List Nat × List Nat):=(true,[([],[]),([0],[0]),([],[]),([2],[2]),([],[]),([3,4],[3,4]),([5],[5]),([6],[6]),([1,7],[1,7]),([0,1,2,3,4,5,6,7,8],[]),([9,8,8,0,1,2,3,4,5,6,7,8],[8,9])])
def spec_l1Compose.B19 : List Nat:=[0,1,0,4,0,28,60,124,255,511,1023]
theorem spec_l1Compose.tab19 : rtab .any (opsOf Try.f76 19) = spec_l1Compose.T19:=by kernel_rfl
theorem spec_l1Compose.bits19 : waitsOk spec_l1Compose.T19.2 spec_l1Compose.B19 = true:=by kernel_rfl
def spec_l1Compose.T21 : Bool × List (List Nat × List Nat):=(true,[([],[]),([0],[0]),([],[]),([2],[2]),([],[]),([4],[4]),([],[]),([5,6],[5,6]),([7],[7]),([1,3,0,1,2,3,4,5,6,7,8],[1,3]),([9,8,0,1,2,3,4,5,6,7,8],[8,9])])
def spec_l1Compose.B21 : List Nat:=[0,1,0,4,0,16,0,112,240,511,1023]
theorem spec_l1Compose.tab21 : rtab .any (opsOf Try.f76 21) = spec_l1Compose.T21:=by kernel_rfl
theorem spec_l1Compose.bits21 : waitsOk spec_l1Compose.T21.2 spec_l1Compose.B21 = true:=by kernel_rfl
set_option maxHeartbeats 8000000 in
set_option maxRecDepth 100000 in
theorem spec_l1Compose.calls (k : Nat) (A0 : Option Addr) (c0 : Nat) (l0 : List (S74)) (A1 : Option Addr) (c1 : Nat) (l1 : List (S74)) (r : List (S74)) (w : World) (hr0 : Kd.C k74 w A0 l0.length l0) (hc0 : l0.length ≤ c0) (hr1 : Kd.C k74 w A1 l1.length l1) (hc1 : l1.length ≤ c1) (h : spec_l1Compose.f k l0 l1 = some r) :
  Calls Try.prog 76 #[.slice A0 l0.length c0,.slice A1 l1.length c1] w fun e w'=>∃ v0_ : Value,e = .returned (v0_)∧Kd.R k74 74 w' w.heap.size (fun _=>True) v0_ r∧Below w.heap.size w w':=by
 have hu110:=Try.underlying110
 have HR0:=Aside0.mk hr0
 have HC0:=Aside0.mk hc0
 clear hr0 hc0
 have HR1:=Aside0.mk hr1
 have HC1:=Aside0.mk hc1
 clear hr1 hc1
 have HB:=Aside0.mk (Below.refl w.heap.size w)
 have H : ((spec_l1Open.f k l0).bind fun bt182=>((spec_l1Open.f k l1).bind fun bt189=>(if 0 ≤ (bt182.2.length : Int) then (if ((bt182.2.length : Int) : Int).toNat ≤ 17592186044416 then ((some (List.replicate ((bt182.2.length : Int) : Int).toNat (⟨#[]⟩ : ByteArray) : List ByteArray)).bind fun y196=>(if 0 < (bt189.2.length : Int) then (if 0 < (y196.length : Int) then (spec_l1Compose.l0 k 0 bt182.2 (bt182.2.length : Int) 0 bt182.1 bt182.2 bt189.1 bt189.2 ([] : List Bool) (y196.set (0 : Int).toNat (rdOf ByteArray.empty bt189.2 0))) else (none)) else (none))) else (none)) else (none)))) = some r:=h
 clear h
 replace H:=Option.bind_eq_some_iff.mp H
 obtain ⟨⟨t182,t185⟩,A30,H⟩:=H
 replace H : ((spec_l1Open.f k l1).bind fun bt189=>(if 0 ≤ (t185.length : Int) then (if ((t185.length : Int) : Int).toNat ≤ 17592186044416 then ((some (List.replicate ((t185.length : Int) : Int).toNat (⟨#[]⟩ : ByteArray) : List ByteArray)).bind fun y196=>(if 0 < (bt189.2.length : Int) then (if 0 < (y196.length : Int) then (spec_l1Compose.l0 k 0 t185 (t185.length : Int) 0 t182 t185 bt189.1 bt189.2 ([] : List Bool) (y196.set (0 : Int).toNat (rdOf ByteArray.empty bt189.2 0))) else (none)) else (none))) else (none)) else (none))) = some r:=H
 have A3:=Aside0.mk A30
 clear A30
 replace H:=Option.bind_eq_some_iff.mp H
 obtain ⟨⟨t189,t192⟩,A40,H⟩:=H
 replace H : (if 0 ≤ (t185.length : Int) then (if ((t185.length : Int) : Int).toNat ≤ 17592186044416 then ((some (List.replicate ((t185.length : Int) : Int).toNat (⟨#[]⟩ : ByteArray) : List ByteArray)).bind fun y196=>(if 0 < (t192.length : Int) then (if 0 < (y196.length : Int) then (spec_l1Compose.l0 k 0 t185 (t185.length : Int) 0 t182 t185 t189 t192 ([] : List Bool) (y196.set (0 : Int).toNat (rdOf ByteArray.empty t192 0))) else (none)) else (none))) else (none)) else (none)) = some r:=H
 have A4:=Aside0.mk A40
 clear A40
 by_cases c5 : 0 ≤ (t185.length : Int)
 ·rw [if_pos c5] at H
  have c5b0:=eq_true c5
  have c5b1 : decide (0 ≤ (t185.length : Int)) = true:=decide_eq_true c5
  clear c5
  by_cases c6 : ((t185.length : Int) : Int).toNat ≤ 17592186044416
  ·rw [if_pos c6] at H
   have c6b0:=eq_true c6
   have c6b1 : decide (((t185.length : Int) : Int).toNat ≤ 17592186044416) = true:=decide_eq_true c6
   clear c6
   obtain ⟨y196,hy196⟩ : ∃ y_ : List ByteArray,y_ = (List.replicate ((t185.length : Int) : Int).toNat (⟨#[]⟩ : ByteArray)):=⟨_,rfl⟩
   replace H : (if 0 < (t192.length : Int) then (if 0 < (y196.length : Int) then (spec_l1Compose.l0 k 0 t185 (t185.length : Int) 0 t182 t185 t189 t192 ([] : List Bool) (y196.set (0 : Int).toNat (rdOf ByteArray.empty t192 0))) else (none)) else (none)) = some r:=by first|(rw [hy196];with_reducible exact H)|(have H2_:=(Option.bind_some _ _).symm.trans H;rw [hy196];with_reducible exact H2_)|(have H2_:=(Option.bind_some _ _).symm.trans H;with_reducible exact H2_)|with_reducible exact H|(rw [hy196];exact H)|exact H
   have Ny196:=Aside0.mk hy196
   clear hy196
   by_cases c7 : 0 < (t192.length : Int)
   ·rw [if_pos c7] at H
    have c7b0 : decide (0 < (t192.length : Int)) = true:=decide_eq_true c7
    have c7b1 : decide (0 < t192.length) = true:=decide_eq_true (by omega)
    clear c7
    by_cases c8 : 0 < (y196.length : Int)
    ·rw [if_pos c8] at H
     have c8b0 : decide (0 < (y196.length : Int)) = true:=decide_eq_true c8
     have c8b1 : decide (0 < y196.length) = true:=decide_eq_true (by omega)
     clear c8
     obtain ⟨y201,hy201⟩ : ∃ y_ : List ByteArray,y_ = (y196.set (0 : Int).toNat (rdOf ByteArray.empty t192 0)):=⟨_,rfl⟩
     replace H : (spec_l1Compose.l0 k 0 t185 (t185.length : Int) 0 t182 t185 t189 t192 ([] : List Bool) y201) = some r:=by first|(rw [hy201];with_reducible exact H)|(have H2_:=(Option.bind_some _ _).symm.trans H;rw [hy201];with_reducible exact H2_)|(have H2_:=(Option.bind_some _ _).symm.trans H;with_reducible exact H2_)|with_reducible exact H|(rw [hy201];exact H)|exact H
     have Ny201:=Aside0.mk hy201
     clear hy201
     have H':=Aside0.mk H
     clear H
     go_enter Try.func76,Try.ntmps76
     try go_wp2_with (first|((with_reducible refine gate_callee (f:=88) rfl ?_);refine goesL_ (some 13) rfl rfl Try.func88 (by kernel_rfl) rfl #[.slice A0 l0.length c0] rfl (by (try simp only [List.map_toArray,List.map_cons,List.map_nil]);first|done|rfl|(simp only [List.length_drop,List.length_take];rfl)) ?_;(with_reducible refine (spec_l1Open.calls k _ _ l0 t182 t185 _ ?side1 ?side2 A3.out).mono ?_);(case side1=>repeat (first|exact HR0.out|(with_reducible first|apply Kd.C_alloc|apply Kd.C_drewN|apply Kd.C_drew)));(case side2=>exact HC0.out);rintro e w10 ⟨v183,v186,rfl,ho0,ho1,hb⟩;refine ⟨_,rfl,?_⟩;have n0_:=Aside0.mk (Kd.R_lower ho0 (below_size (by repeat (first|exact HB.out|apply below_alloc|apply pw_below_drewN|apply below_drew1))));have n1_:=Aside0.mk (Kd.R_lower ho1 (below_size (by repeat (first|exact HB.out|apply below_alloc|apply pw_below_drewN|apply below_drew1))));have n2_:=Aside0.mk (below_step (by repeat (first|exact HB.out|apply below_alloc|apply pw_below_drewN|apply below_drew1)) hb);clear HB;have HO184:=n0_;have HO187:=n1_;have HB:=n2_;clear n0_ n1_ n2_;(try clear hb);(try clear hb2);(try clear hk);(try clear hi);(try clear ho0);(try clear ho1))|((with_reducible refine gate_dst (N:=5) rfl ?_);refine box_event ?hg (N:=5) ?hd (cs:=#[.slice none 0 0,.slice none 0 0]) (t:=110) ?hr ?_;(case hd=>rfl);(case hg=>rfl);(case hr=>first|(go_simp;done)|(go_simp;rfl));intro gb188 hg w11 hbox hb;have n0_:=Aside0.mk (Kd.R_below (by (with_reducible repeat (first|apply Kd.R_alloc|apply Kd.R_drewN|apply Kd.R_drew));exact HO184.out) hb);have n1_:=Aside0.mk (Kd.R_below (by (with_reducible repeat (first|apply Kd.R_alloc|apply Kd.R_drewN|apply Kd.R_drew));exact HO187.out) hb);have n2_:=Aside0.mk (below_step (by repeat (first|exact HB.out|apply below_alloc|apply pw_below_drewN|apply below_drew1)) hb);have n3_:=Aside0.mk (hbox);have n4_:=Aside0.mk ((by rw [hg];exact (below_size (by repeat (first|exact HB.out|apply below_alloc|apply pw_below_drewN|apply below_drew1))) : w.heap.size ≤ gb188));have n5_:=Aside0.mk ((by rw [hg];exact (below_size (by repeat (first|exact HB.out|apply below_alloc|apply pw_below_drewN|apply below_drew1))) : w.heap.size ≤ gb188));clear HO184;clear HO187;clear HB;have HO184:=n0_;have HO187:=n1_;have HB:=n2_;have BK188:=n3_;have GW188:=n4_;have GE188:=n5_;clear n0_ n1_ n2_ n3_ n4_ n5_;clear hb hbox hg;obtain ⟨Ao12,co12,eo12⟩:=Kd.R_slice HO184.out;subst eo12;have hcz13_0 : w11.cell? ⟨gb188,0,none⟩ = some (.slice none 0 0):=(blk_cell BK188.out 0).trans rfl;have hcz13_1 : w11.cell? ⟨gb188,1,none⟩ = some (.slice none 0 0):=(blk_cell BK188.out 1).trans rfl;have hfz13_0:=blk_frozen BK188.out 0;have hfz13_1:=blk_frozen BK188.out 1;obtain ⟨Ao14,co14,eo14⟩:=Kd.R_slice HO187.out;subst eo14)|((with_reducible refine gate_callee (f:=88) rfl ?_);refine goesL_ (some 15) rfl rfl Try.func88 (by kernel_rfl) rfl #[.slice A1 l1.length c1] rfl (by (try simp only [List.map_toArray,List.map_cons,List.map_nil]);first|done|rfl|(simp only [List.length_drop,List.length_take];rfl)) ?_;(with_reducible refine (spec_l1Open.calls k _ _ l1 t189 t192 _ ?side1 ?side2 A4.out).mono ?_);(case side1=>exact Kd.C_below HR1.out (by repeat (first|(with_reducible first|exact HB.out|apply below_alloc|apply pw_below_drewN|apply below_drew1|refine below_set ?_ GE188.out)|exact HB.out)));(case side2=>exact HC1.out);rintro e w15 ⟨v190,v193,rfl,ho0,ho1,hb⟩;refine ⟨_,rfl,?_⟩;have n0_:=Aside0.mk (Kd.R_elder' (by (with_reducible repeat (first|apply Kd.R_alloc|apply Kd.R_drewN|apply Kd.R_drew));exact (Kd.R_mono (Kd.R_far (p:=⟨gb188,1,none⟩) (Kd.R_far (p:=⟨gb188,0,none⟩) (Kd.R_types HO184.out BK188.out (by decide)) (fun _ hk=>hk.2) (.slice Ao12 t182.length co12)) (fun _ hk=>hk.2) (.slice Ao14 t185.length co14)) (fun _ h_=>h_.1))) (Kd.R_base ho0) hb);have n1_:=Aside0.mk (Kd.R_elder' (by (with_reducible repeat (first|apply Kd.R_alloc|apply Kd.R_drewN|apply Kd.R_drew));exact (Kd.R_mono (Kd.R_far (p:=⟨gb188,1,none⟩) (Kd.R_far (p:=⟨gb188,0,none⟩) (Kd.R_types HO187.out BK188.out (by decide)) (fun _ hk=>hk.2) (.slice Ao12 t182.length co12)) (fun _ hk=>hk.2) (.slice Ao14 t185.length co14)) (fun _ h_=>h_.1))) (Kd.R_base ho1) hb);have n2_:=Aside0.mk (Kd.R_lower (Kd.R_new' ho0 (Kd.R_lt (by (with_reducible repeat (first|apply Kd.R_alloc|apply Kd.R_drewN|apply Kd.R_drew));exact (Kd.R_mono (Kd.R_far (p:=⟨gb188,1,none⟩) (Kd.R_far (p:=⟨gb188,0,none⟩) (Kd.R_types HO184.out BK188.out (by decide)) (fun _ hk=>hk.2) (.slice Ao12 t182.length co12)) (fun _ hk=>hk.2) (.slice Ao14 t185.length co14)) (fun _ h_=>h_.1))))) (below_size (by repeat (first|(with_reducible first|exact HB.out|apply below_alloc|apply pw_below_drewN|apply below_drew1|refine below_set ?_ GE188.out)|exact HB.out))));have n3_:=Aside0.mk (Kd.R_lower (Kd.R_new' ho1 (Kd.R_lt (by (with_reducible repeat (first|apply Kd.R_alloc|apply Kd.R_drewN|apply Kd.R_drew));exact (Kd.R_mono (Kd.R_far (p:=⟨gb188,1,none⟩) (Kd.R_far (p:=⟨gb188,0,none⟩) (Kd.R_types HO187.out BK188.out (by decide)) (fun _ hk=>hk.2) (.slice Ao12 t182.length co12)) (fun _ hk=>hk.2) (.slice Ao14 t185.length co14)) (fun _ h_=>h_.1))))) (below_size (by repeat (first|(with_reducible first|exact HB.out|apply below_alloc|apply pw_below_drewN|apply below_drew1|refine below_set ?_ GE188.out)|exact HB.out))));have n4_:=Aside0.mk (blk_below (g:=gb188) (o:=.cells #[.slice Ao12 t182.length co12,.slice Ao14 t185.length co14] 110 (0,0)) (by (with_reducible repeat first|apply blk_drewN|apply blk_drew|apply blk_alloc);refine blk_put (cs:=#[.slice Ao12 t182.length co12,.slice none 0 0]) ?_ 1 _ rfl;(with_reducible repeat first|apply blk_drewN|apply blk_drew|apply blk_alloc);refine blk_put (cs:=#[.slice none 0 0,.slice none 0 0]) ?_ 0 _ rfl;(with_reducible repeat first|apply blk_drewN|apply blk_drew|apply blk_alloc);exact BK188.out) hb);have n5_:=Aside0.mk (below_step (by repeat (first|(with_reducible first|exact HB.out|apply below_alloc|apply pw_below_drewN|apply below_drew1|refine below_set ?_ GE188.out)|exact HB.out)) hb);clear HO184;clear HO187;clear BK188;clear HB;have HO184:=n0_;have HO187:=n1_;have HO191:=n2_;have HO194:=n3_;have BK188:=n4_;have HB:=n5_;clear n0_ n1_ n2_ n3_ n4_ n5_;(try clear hb);(try clear hb2);(try clear hk);(try clear hi);(try clear ho0);(try clear ho1))|((with_reducible refine gate_dst (N:=6) rfl ?_);refine box_event ?hg (N:=6) ?hd (cs:=#[.slice none 0 0,.slice none 0 0]) (t:=110) ?hr ?_;(case hd=>rfl);(case hg=>rfl);(case hr=>first|(go_simp;done)|(go_simp;rfl));intro gb195 hg w16 hbox hb;have n0_:=Aside0.mk (Kd.R_below (by (with_reducible repeat (first|apply Kd.R_alloc|apply Kd.R_drewN|apply Kd.R_drew));exact HO184.out) hb);have n1_:=Aside0.mk (Kd.R_below (by (with_reducible repeat (first|apply Kd.R_alloc|apply Kd.R_drewN|apply Kd.R_drew));exact HO187.out) hb);have n2_:=Aside0.mk (Kd.R_below (by (with_reducible repeat (first|apply Kd.R_alloc|apply Kd.R_drewN|apply Kd.R_drew));exact HO191.out) hb);have n3_:=Aside0.mk (Kd.R_below (by (with_reducible repeat (first|apply Kd.R_alloc|apply Kd.R_drewN|apply Kd.R_drew));exact HO194.out) hb);have n4_:=Aside0.mk (blk_below (g:=gb188) (o:=.cells #[.slice Ao12 t182.length co12,.slice Ao14 t185.length co14] 110 (0,0)) (by (with_reducible repeat first|apply blk_drewN|apply blk_drew|apply blk_alloc);exact BK188.out) hb);have n5_:=Aside0.mk (below_step (by repeat (first|(with_reducible first|exact HB.out|apply below_alloc|apply pw_below_drewN|apply below_drew1|refine below_set ?_ GE188.out)|exact HB.out)) hb);have n6_:=Aside0.mk (hbox);have n7_:=Aside0.mk ((by rw [hg];exact (below_size (by repeat (first|(with_reducible first|exact HB.out|apply below_alloc|apply pw_below_drewN|apply below_drew1|refine below_set ?_ GE188.out)|exact HB.out))) : w.heap.size ≤ gb195));have n8_:=Aside0.mk ((by rw [hg];exact (below_size (by repeat (first|(with_reducible first|exact HB.out|apply below_alloc|apply pw_below_drewN|apply below_drew1|refine below_set ?_ GE188.out)|exact HB.out))) : w.heap.size ≤ gb195));have n9_:=Aside0.mk ((by rw [hg];exact Nat.ne_of_lt (blk_lt (g:=gb188) (o:=.cells #[.slice Ao12 t182.length co12,.slice Ao14 t185.length co14] 110 (0,0)) (by (with_reducible repeat first|apply blk_drewN|apply blk_drew|apply blk_alloc);exact BK188.out)) : gb188 ≠ gb195));have n10_:=Aside0.mk ((by rw [hg];exact Nat.ne_of_gt (blk_lt (g:=gb188) (o:=.cells #[.slice Ao12 t182.length co12,.slice Ao14 t185.length co14] 110 (0,0)) (by (with_reducible repeat first|apply blk_drewN|apply blk_drew|apply blk_alloc);exact BK188.out)) : gb195 ≠ gb188));clear HO184;clear HO187;clear HO191;clear HO194;clear BK188;clear HB;have HO184:=n0_;have HO187:=n1_;have HO191:=n2_;have HO194:=n3_;have BK188:=n4_;have HB:=n5_;have BK195:=n6_;have GW195:=n7_;have GE195:=n8_;have NB188_195:=n9_;have NB195_188:=n10_;clear n0_ n1_ n2_ n3_ n4_ n5_ n6_ n7_ n8_ n9_ n10_;clear hb hbox hg;obtain ⟨Ao17,co17,eo17⟩:=Kd.R_slice HO191.out;subst eo17;have hnb18:=NB195_188.out;have hnc18:=NB188_195.out;have hcz19_0 : w16.cell? ⟨gb195,0,none⟩ = some (.slice none 0 0):=(blk_cell BK195.out 0).trans rfl;have hcz19_1 : w16.cell? ⟨gb195,1,none⟩ = some (.slice none 0 0):=(blk_cell BK195.out 1).trans rfl;have hfz19_0:=blk_frozen BK195.out 0;have hfz19_1:=blk_frozen BK195.out 1;obtain ⟨Ao20,co20,eo20⟩:=Kd.R_slice HO194.out;subst eo20;have hcz21_0 : w16.cell? ⟨gb188,0,none⟩ = some (.slice Ao12 t182.length co12):=(blk_cell BK188.out 0).trans rfl;have hcz21_1 : w16.cell? ⟨gb188,1,none⟩ = some (.slice Ao14 t185.length co14):=(blk_cell BK188.out 1).trans rfl;have hfz21_0:=blk_frozen BK188.out 0;have hfz21_1:=blk_frozen BK188.out 1)|((with_reducible refine gate_dst (N:=19) rfl ?_);refine Kd.R_make Kd.string _ 9 rfl (N:=19) rfl 84 _ _ rfl (t185.length : Int) rfl rfl Try.underlying84 (.string ⟨#[]⟩) 16 info9 rfl (by decide) (by omega) (⟨#[]⟩ : ByteArray) (ok:=fun _=>True) (okp:=fun _=>True) rfl (fun _ hk=>hk) trivial (of_decide_eq_true (by assumption)) (Nat.le_trans (Nat.mul_le_mul_right _ (of_decide_eq_true (by assumption) : (t185.length : Int).toNat ≤ 17592186044416)) (by omega)) (Below.refl _ _) (Nat.le_refl _) ?_;intro v197 w22 ho23 hb hg_ hnew_;clear hg_ hnew_;(first|rw [← Ny196.out] at ho23|(simp only [Int.reduceToNat] at ho23;rw [← Ny196.out] at ho23));have n0_:=Aside0.mk (Kd.R_below (by (with_reducible repeat (first|apply Kd.R_alloc|apply Kd.R_drewN|apply Kd.R_drew));exact (Kd.R_mono (Kd.R_far (p:=⟨gb195,1,none⟩) (Kd.R_far (p:=⟨gb195,0,none⟩) (Kd.R_types HO184.out BK195.out (by decide)) (fun _ hk=>hk.2) (.slice Ao17 t189.length co17)) (fun _ hk=>hk.2) (.slice Ao20 t192.length co20)) (fun _ h_=>h_.1))) hb);have n1_:=Aside0.mk (Kd.R_elder' (by (with_reducible repeat (first|apply Kd.R_alloc|apply Kd.R_drewN|apply Kd.R_drew));exact (Kd.R_mono (Kd.R_far (p:=⟨gb195,1,none⟩) (Kd.R_far (p:=⟨gb195,0,none⟩) (Kd.R_types HO187.out BK195.out (by decide)) (fun _ hk=>hk.2) (.slice Ao17 t189.length co17)) (fun _ hk=>hk.2) (.slice Ao20 t192.length co20)) (fun _ h_=>h_.1))) (Kd.R_base ho23) hb);have n2_:=Aside0.mk (Kd.R_below (by (with_reducible repeat (first|apply Kd.R_alloc|apply Kd.R_drewN|apply Kd.R_drew));exact (Kd.R_mono (Kd.R_far (p:=⟨gb195,1,none⟩) (Kd.R_far (p:=⟨gb195,0,none⟩) (Kd.R_types HO191.out BK195.out (by decide)) (fun _ hk=>hk.2) (.slice Ao17 t189.length co17)) (fun _ hk=>hk.2) (.slice Ao20 t192.length co20)) (fun _ h_=>h_.1))) hb);have n3_:=Aside0.mk (Kd.R_elder' (by (with_reducible repeat (first|apply Kd.R_alloc|apply Kd.R_drewN|apply Kd.R_drew));exact (Kd.R_mono (Kd.R_far (p:=⟨gb195,1,none⟩) (Kd.R_far (p:=⟨gb195,0,none⟩) (Kd.R_types HO194.out BK195.out (by decide)) (fun _ hk=>hk.2) (.slice Ao17 t189.length co17)) (fun _ hk=>hk.2) (.slice Ao20 t192.length co20)) (fun _ h_=>h_.1))) (Kd.R_base ho23) hb);have n4_:=Aside0.mk (Kd.R_lower (Kd.R_new' (Kd.R_new' ho23 (Kd.R_lt (by (with_reducible repeat (first|apply Kd.R_alloc|apply Kd.R_drewN|apply Kd.R_drew));exact (Kd.R_mono (Kd.R_far (p:=⟨gb195,1,none⟩) (Kd.R_far (p:=⟨gb195,0,none⟩) (Kd.R_types HO187.out BK195.out (by decide)) (fun _ hk=>hk.2) (.slice Ao17 t189.length co17)) (fun _ hk=>hk.2) (.slice Ao20 t192.length co20)) (fun _ h_=>h_.1))))) (Kd.R_lt (by (with_reducible repeat (first|apply Kd.R_alloc|apply Kd.R_drewN|apply Kd.R_drew));exact (Kd.R_mono (Kd.R_far (p:=⟨gb195,1,none⟩) (Kd.R_far (p:=⟨gb195,0,none⟩) (Kd.R_types HO194.out BK195.out (by decide)) (fun _ hk=>hk.2) (.slice Ao17 t189.length co17)) (fun _ hk=>hk.2) (.slice Ao20 t192.length co20)) (fun _ h_=>h_.1))))) (below_size (by repeat (first|(with_reducible first|exact HB.out|apply below_alloc|apply pw_below_drewN|apply below_drew1|refine below_set ?_ GE188.out|refine below_set ?_ GE195.out)|exact HB.out))));have n5_:=Aside0.mk (blk_below (g:=gb188) (o:=.cells #[.slice Ao12 t182.length co12,.slice Ao14 t185.length co14] 110 (0,0)) (by (with_reducible repeat first|apply blk_drewN|apply blk_drew|apply blk_alloc);refine blk_far ?_ NB188_195.out _;(with_reducible repeat first|apply blk_drewN|apply blk_drew|apply blk_alloc);refine blk_far ?_ NB188_195.out _;(with_reducible repeat first|apply blk_drewN|apply blk_drew|apply blk_alloc);exact BK188.out) hb);have n6_:=Aside0.mk (blk_below (g:=gb195) (o:=.cells #[.slice Ao17 t189.length co17,.slice Ao20 t192.length co20] 110 (0,0)) (by (with_reducible repeat first|apply blk_drewN|apply blk_drew|apply blk_alloc);refine blk_put (cs:=#[.slice Ao17 t189.length co17,.slice none 0 0]) ?_ 1 _ rfl;(with_reducible repeat first|apply blk_drewN|apply blk_drew|apply blk_alloc);refine blk_put (cs:=#[.slice none 0 0,.slice none 0 0]) ?_ 0 _ rfl;(with_reducible repeat first|apply blk_drewN|apply blk_drew|apply blk_alloc);exact BK195.out) hb);have n7_:=Aside0.mk (below_step (by repeat (first|(with_reducible first|exact HB.out|apply below_alloc|apply pw_below_drewN|apply below_drew1|refine below_set ?_ GE188.out|refine below_set ?_ GE195.out)|exact HB.out)) hb);clear HO184;clear HO187;clear HO191;clear HO194;clear BK188;clear BK195;clear HB;have HO184:=n0_;have HO187:=n1_;have HO191:=n2_;have HO194:=n3_;have HO198:=n4_;have BK188:=n5_;have BK195:=n6_;have HB:=n7_;clear n0_ n1_ n2_ n3_ n4_ n5_ n6_ n7_;clear hb ho23;obtain ⟨Ao24,co24,eo24⟩:=Kd.R_slice HO198.out;subst eo24)|((with_reducible refine gate_dst (N:=7) rfl ?_);refine box_event ?hg (N:=7) ?hd (cs:=#[.slice none 0 0,.slice none 0 0]) (t:=110) ?hr ?_;(case hd=>rfl);(case hg=>rfl);(case hr=>first|(go_simp;done)|(go_simp;rfl));intro gb199 hg w25 hbox hb;have n0_:=Aside0.mk (Kd.R_below (by (with_reducible repeat (first|apply Kd.R_alloc|apply Kd.R_drewN|apply Kd.R_drew));exact HO184.out) hb);have n1_:=Aside0.mk (Kd.R_below (by (with_reducible repeat (first|apply Kd.R_alloc|apply Kd.R_drewN|apply Kd.R_drew));exact HO187.out) hb);have n2_:=Aside0.mk (Kd.R_below (by (with_reducible repeat (first|apply Kd.R_alloc|apply Kd.R_drewN|apply Kd.R_drew));exact HO191.out) hb);have n3_:=Aside0.mk (Kd.R_below (by (with_reducible repeat (first|apply Kd.R_alloc|apply Kd.R_drewN|apply Kd.R_drew));exact HO194.out) hb);have n4_:=Aside0.mk (Kd.R_below (by (with_reducible repeat (first|apply Kd.R_alloc|apply Kd.R_drewN|apply Kd.R_drew));exact HO198.out) hb);have n5_:=Aside0.mk (blk_below (g:=gb188) (o:=.cells #[.slice Ao12 t182.length co12,.slice Ao14 t185.length co14] 110 (0,0)) (by (with_reducible repeat first|apply blk_drewN|apply blk_drew|apply blk_alloc);exact BK188.out) hb);have n6_:=Aside0.mk (blk_below (g:=gb195) (o:=.cells #[.slice Ao17 t189.length co17,.slice Ao20 t192.length co20] 110 (0,0)) (by (with_reducible repeat first|apply blk_drewN|apply blk_drew|apply blk_alloc);exact BK195.out) hb);have n7_:=Aside0.mk (below_step (by repeat (first|(with_reducible first|exact HB.out|apply below_alloc|apply pw_below_drewN|apply below_drew1|refine below_set ?_ GE188.out|refine below_set ?_ GE195.out)|exact HB.out)) hb);have n8_:=Aside0.mk (hbox);have n9_:=Aside0.mk ((by rw [hg];exact (below_size (by repeat (first|(with_reducible first|exact HB.out|apply below_alloc|apply pw_below_drewN|apply below_drew1|refine below_set ?_ GE188.out|refine below_set ?_ GE195.out)|exact HB.out))) : w.heap.size ≤ gb199));have n10_:=Aside0.mk ((by rw [hg];exact (below_size (by repeat (first|(with_reducible first|exact HB.out|apply below_alloc|apply pw_below_drewN|apply below_drew1|refine below_set ?_ GE188.out|refine below_set ?_ GE195.out)|exact HB.out))) : w.heap.size ≤ gb199));have n11_:=Aside0.mk ((by rw [hg];exact Nat.ne_of_lt (blk_lt (g:=gb188) (o:=.cells #[.slice Ao12 t182.length co12,.slice Ao14 t185.length co14] 110 (0,0)) (by (with_reducible repeat first|apply blk_drewN|apply blk_drew|apply blk_alloc);exact BK188.out)) : gb188 ≠ gb199));have n12_:=Aside0.mk ((by rw [hg];exact Nat.ne_of_gt (blk_lt (g:=gb188) (o:=.cells #[.slice Ao12 t182.length co12,.slice Ao14 t185.length co14] 110 (0,0)) (by (with_reducible repeat first|apply blk_drewN|apply blk_drew|apply blk_alloc);exact BK188.out)) : gb199 ≠ gb188));have n13_:=Aside0.mk ((by rw [hg];exact Nat.ne_of_lt (blk_lt (g:=gb195) (o:=.cells #[.slice Ao17 t189.length co17,.slice Ao20 t192.length co20] 110 (0,0)) (by (with_reducible repeat first|apply blk_drewN|apply blk_drew|apply blk_alloc);exact BK195.out)) : gb195 ≠ gb199));have n14_:=Aside0.mk ((by rw [hg];exact Nat.ne_of_gt (blk_lt (g:=gb195) (o:=.cells #[.slice Ao17 t189.length co17,.slice Ao20 t192.length co20] 110 (0,0)) (by (with_reducible repeat first|apply blk_drewN|apply blk_drew|apply blk_alloc);exact BK195.out)) : gb199 ≠ gb195));clear HO184;clear HO187;clear HO191;clear HO194;clear HO198;clear BK188;clear BK195;clear HB;have HO184:=n0_;have HO187:=n1_;have HO191:=n2_;have HO194:=n3_;have HO198:=n4_;have BK188:=n5_;have BK195:=n6_;have HB:=n7_;have BK199:=n8_;have GW199:=n9_;have GE199:=n10_;have NB188_199:=n11_;have NB199_188:=n12_;have NB195_199:=n13_;have NB199_195:=n14_;clear n0_ n1_ n2_ n3_ n4_ n5_ n6_ n7_ n8_ n9_ n10_ n11_ n12_ n13_ n14_;clear hb hbox hg;have hnb26:=NB199_188.out;have hnc26:=NB188_199.out;have hnb27:=NB199_195.out;have hnc27:=NB195_199.out;have hcz28_0 : w25.cell? ⟨gb199,0,none⟩ = some (.slice none 0 0):=(blk_cell BK199.out 0).trans rfl;have hcz28_1 : w25.cell? ⟨gb199,1,none⟩ = some (.slice none 0 0):=(blk_cell BK199.out 1).trans rfl;have hfz28_0:=blk_frozen BK199.out 0;have hfz28_1:=blk_frozen BK199.out 1))
     have n0_ : Aside0 (Kd.R Kd.bool 4 ((w25.setCell ⟨gb199,0,none⟩ (.slice none 0 0)).setCell ⟨gb199,1,none⟩ (.slice Ao24 y196.length co24)) w.heap.size (fun k_=>some k_ ≠ (.slice Ao17 t189.length co17 : Value).ownBlock) (.slice Ao12 t182.length co12) t182):=⟨by (with_reducible repeat (first|apply Kd.R_alloc|apply Kd.R_drewN|apply Kd.R_drew));exact Kd.R_mono (Kd.R_far (p:=⟨gb199,1,none⟩) (Kd.R_far (p:=⟨gb199,0,none⟩) (Kd.R_types HO184.out BK199.out (by decide)) (fun _ hk=>hk.2) (.slice none 0 0)) (fun _ hk=>hk.2) (.slice Ao24 y196.length co24)) (fun _ hk=>hk.1.2)⟩
     have n1_ : Aside0 (Kd.R Kd.string 9 ((w25.setCell ⟨gb199,0,none⟩ (.slice none 0 0)).setCell ⟨gb199,1,none⟩ (.slice Ao24 y196.length co24)) w.heap.size (fun k_=>some k_ ≠ (.slice Ao20 t192.length co20 : Value).ownBlock∧some k_ ≠ (.slice Ao24 y196.length co24 : Value).ownBlock) (.slice Ao14 t185.length co14) t185):=⟨by (with_reducible repeat (first|apply Kd.R_alloc|apply Kd.R_drewN|apply Kd.R_drew));exact Kd.R_mono (Kd.R_far (p:=⟨gb199,1,none⟩) (Kd.R_far (p:=⟨gb199,0,none⟩) (Kd.R_types HO187.out BK199.out (by decide)) (fun _ hk=>hk.2) (.slice none 0 0)) (fun _ hk=>hk.2) (.slice Ao24 y196.length co24)) (fun _ hk=>⟨hk.1.1.2,hk.1.2⟩)⟩
     have n2_ : Aside0 (Kd.R Kd.bool 4 ((w25.setCell ⟨gb199,0,none⟩ (.slice none 0 0)).setCell ⟨gb199,1,none⟩ (.slice Ao24 y196.length co24)) w.heap.size (fun k_=>some k_ ≠ (.slice Ao12 t182.length co12 : Value).ownBlock) (.slice Ao17 t189.length co17) t189):=⟨by (with_reducible repeat (first|apply Kd.R_alloc|apply Kd.R_drewN|apply Kd.R_drew));exact Kd.R_mono (Kd.R_far (p:=⟨gb199,1,none⟩) (Kd.R_far (p:=⟨gb199,0,none⟩) (Kd.R_types HO191.out BK199.out (by decide)) (fun _ hk=>hk.2) (.slice none 0 0)) (fun _ hk=>hk.2) (.slice Ao24 y196.length co24)) (fun _ hk=>hk.1.2)⟩
     have n3_ : Aside0 (Kd.R Kd.string 9 ((w25.setCell ⟨gb199,0,none⟩ (.slice none 0 0)).setCell ⟨gb199,1,none⟩ (.slice Ao24 y196.length co24)) w.heap.size (fun k_=>some k_ ≠ (.slice Ao14 t185.length co14 : Value).ownBlock∧some k_ ≠ (.slice Ao24 y196.length co24 : Value).ownBlock) (.slice Ao20 t192.length co20) t192):=⟨by (with_reducible repeat (first|apply Kd.R_alloc|apply Kd.R_drewN|apply Kd.R_drew));exact Kd.R_mono (Kd.R_far (p:=⟨gb199,1,none⟩) (Kd.R_far (p:=⟨gb199,0,none⟩) (Kd.R_types HO194.out BK199.out (by decide)) (fun _ hk=>hk.2) (.slice none 0 0)) (fun _ hk=>hk.2) (.slice Ao24 y196.length co24)) (fun _ hk=>⟨hk.1.1.2,hk.1.2⟩)⟩
     have n4_ : Aside0 (Kd.R Kd.string 9 ((w25.setCell ⟨gb199,0,none⟩ (.slice none 0 0)).setCell ⟨gb199,1,none⟩ (.slice Ao24 y196.length co24)) w.heap.size (fun k_=>some k_ ≠ (.slice Ao14 t185.length co14 : Value).ownBlock∧some k_ ≠ (.slice Ao20 t192.length co20 : Value).ownBlock) (.slice Ao24 y196.length co24) y196):=⟨by (with_reducible repeat (first|apply Kd.R_alloc|apply Kd.R_drewN|apply Kd.R_drew));exact Kd.R_mono (Kd.R_far (p:=⟨gb199,1,none⟩) (Kd.R_far (p:=⟨gb199,0,none⟩) (Kd.R_types HO198.out BK199.out (by decide)) (fun _ hk=>hk.2) (.slice none 0 0)) (fun _ hk=>hk.2) (.slice Ao24 y196.length co24)) (fun _ hk=>⟨hk.1.1.2,hk.1.2⟩)⟩
     have n5_ : Aside0 (((w25.setCell ⟨gb199,0,none⟩ (.slice none 0 0)).setCell ⟨gb199,1,none⟩ (.slice Ao24 y196.length co24)).heap[gb188]? = some (.cells #[.slice Ao12 t182.length co12,.slice Ao14 t185.length co14] 110 (0,0))):=⟨by (with_reducible repeat first|apply blk_drewN|apply blk_drew|apply blk_alloc);refine blk_far ?_ NB188_199.out _;(with_reducible repeat first|apply blk_drewN|apply blk_drew|apply blk_alloc);refine blk_far ?_ NB188_199.out _;(with_reducible repeat first|apply blk_drewN|apply blk_drew|apply blk_alloc);exact BK188.out⟩
     have n6_ : Aside0 (((w25.setCell ⟨gb199,0,none⟩ (.slice none 0 0)).setCell ⟨gb199,1,none⟩ (.slice Ao24 y196.length co24)).heap[gb195]? = some (.cells #[.slice Ao17 t189.length co17,.slice Ao20 t192.length co20] 110 (0,0))):=⟨by (with_reducible repeat first|apply blk_drewN|apply blk_drew|apply blk_alloc);refine blk_far ?_ NB195_199.out _;(with_reducible repeat first|apply blk_drewN|apply blk_drew|apply blk_alloc);refine blk_far ?_ NB195_199.out _;(with_reducible repeat first|apply blk_drewN|apply blk_drew|apply blk_alloc);exact BK195.out⟩
     have n7_ : Aside0 (((w25.setCell ⟨gb199,0,none⟩ (.slice none 0 0)).setCell ⟨gb199,1,none⟩ (.slice Ao24 y196.length co24)).heap[gb199]? = some (.cells #[.slice none 0 0,.slice Ao24 y196.length co24] 110 (0,0))):=⟨by (with_reducible repeat first|apply blk_drewN|apply blk_drew|apply blk_alloc);refine blk_put (cs:=#[.slice none 0 0,.slice none 0 0]) ?_ 1 _ rfl;(with_reducible repeat first|apply blk_drewN|apply blk_drew|apply blk_alloc);refine blk_put (cs:=#[.slice none 0 0,.slice none 0 0]) ?_ 0 _ rfl;(with_reducible repeat first|apply blk_drewN|apply blk_drew|apply blk_alloc);exact BK199.out⟩
     have n8_ : Aside0 (Below w.heap.size w ((w25.setCell ⟨gb199,0,none⟩ (.slice none 0 0)).setCell ⟨gb199,1,none⟩ (.slice Ao24 y196.length co24))):=⟨by repeat (first|(with_reducible first|exact HB.out|apply below_alloc|apply pw_below_drewN|apply below_drew1|refine below_set ?_ GE188.out|refine below_set ?_ GE195.out|refine below_set ?_ GE199.out)|exact HB.out)⟩
     (try clear HO184)
     (try clear HO187)
     (try clear HO191)
     (try clear HO194)
     (try clear HO198)
     (try clear BK188)
     (try clear BK195)
     (try clear BK199)
     (try clear HB)
     generalize ((w25.setCell ⟨gb199,0,none⟩ (.slice none 0 0)).setCell ⟨gb199,1,none⟩ (.slice Ao24 y196.length co24)) = w29 at n0_ n1_ n2_ n3_ n4_ n5_ n6_ n7_ n8_ ⊢
     have HO184:=n0_
     have HO187:=n1_
     have HO191:=n2_
     have HO194:=n3_
     have HO198:=n4_
     have BK188:=n5_
     have BK195:=n6_
     have BK199:=n7_
     have HB:=n8_
     clear n0_ n1_ n2_ n3_ n4_ n5_ n6_ n7_ n8_
     have n0_:=Aside0.mk (Kd.R_drew HO184.out)
     have n1_:=Aside0.mk (Kd.R_drew HO187.out)
     have n2_:=Aside0.mk (Kd.R_drew HO191.out)
     have n3_:=Aside0.mk (Kd.R_drew HO194.out)
     have n4_:=Aside0.mk (Kd.R_drew HO198.out)
     have n5_:=Aside0.mk (blk_drew BK188.out)
     have n6_:=Aside0.mk (blk_drew BK195.out)
     have n7_:=Aside0.mk (blk_drew BK199.out)
     have n8_:=Aside0.mk (below_drew1 HB.out)
     clear HO184
     clear HO187
     clear HO191
     clear HO194
     clear HO198
     clear BK188
     clear BK195
     clear BK199
     clear HB
     have HO184:=n0_
     have HO187:=n1_
     have HO191:=n2_
     have HO194:=n3_
     have HO198:=n4_
     have BK188:=n5_
     have BK195:=n6_
     have BK199:=n7_
     have HB:=n8_
     clear n0_ n1_ n2_ n3_ n4_ n5_ n6_ n7_ n8_
     have p200 : 0 ≤ (0 : Int):=(by omega)
     have q200 : 0 < (t192.length : Int):=of_decide_eq_true (by assumption)
     obtain ⟨ad200,e200,hx200_0⟩:=Kd.at_string (Kd.R_reads' HO194.out).2.2 0 p200 q200
     cases e200
     have qi200 : (0 < t192.length) = True:=eq_true (by omega)
     (try rw [show ((0 : Int)).toNat = 0 from rfl] at hx200_0)
     (try rw [Addr.add_zero'] at hx200_0)
     replace p200:=eq_true p200
     replace q200:=eq_true q200
     have p9 : 0 ≤ (0 : Int):=(by omega)
     have q9 : (0 : Int) < ((y196.length : Int) : Int):=of_decide_eq_true (by assumption)
     have qi9 : (0 < y196.length) = True:=eq_true (by omega)
     obtain ⟨go9,co9,eo9,gb9,gl9,cl9,HG9⟩:=Kd.R_form HO198.out (by omega)
     (first|cases eo9|(injection eo9 with ea_ en_ ec_;(first|subst ea_|(injection ea_ with ea_;subst ea_));subst ec_;clear en_))
     have GB9:=Aside0.mk gb9
     have GG9:=Aside0.mk HG9
     clear gb9 gl9 HG9
     obtain ⟨hx9_0,hf9_0⟩:=Kd.R_celln (⟨#[]⟩ : ByteArray) HO198.out (0 : Int) p9 q9
     (try rw [show ((0 : Int)).toNat = 0 from rfl] at hx9_0)
     (try simp only [Nat.reduceMul,Nat.zero_mul,Nat.zero_add,Nat.reduceAdd] at hx9_0)
     (try rw [show ((0 : Int)).toNat = 0 from rfl] at hf9_0)
     (try simp only [Nat.reduceMul,Nat.zero_mul,Nat.zero_add,Nat.reduceAdd] at hf9_0)
     replace p9:=eq_true p9
     replace q9:=eq_true q9
     have HP31:=Kd.R_putn HO198.out (0 : Int) (rdOf ByteArray.empty t192 0)
     rw [← Ny201.out] at HP31
     have HQ31:=Aside0.mk HP31
     clear HP31
     refine start_ (n:=8) (S:=fun w'=>w'.cell? ⟨gb199,0,none⟩ = some (.slice none 0 0)∧w'.cell? ⟨gb199,1,none⟩ = some (.slice (some ⟨go9,0,none⟩) y196.length co24)∧w'.cell? ⟨gb195,0,none⟩ = some (.slice Ao17 t189.length co17)∧w'.cell? ⟨gb195,1,none⟩ = some (.slice (some ad200) t192.length co20)∧w'.cell? ad200 = some (.string (rdOf ByteArray.empty t192 0))) (ds:=[7]) #[false,false,false,false,false,false,false,false] (by kernel_rfl) rfl rfl ⟨(blk_cell BK199.out 0).trans rfl,(blk_cell BK199.out 1).trans rfl,(blk_cell BK195.out 0).trans rfl,(blk_cell BK195.out 1).trans rfl,hx200_0⟩ (fun hHeld=>?_);refine with_tabW spec_l1Compose.tab5 spec_l1Compose.bits5 (fun HT_ HW_=>?_)
     generalize w29.drew = w30 at HO184 HO187 HO191 HO194 HO198 BK188 BK195 BK199 HB GG9 HQ31 hf9_0 hx200_0 hx9_0 hHeld ⊢
     refine pure_ (i:=0) (N:=some 21) (v:=?_) (a':=?_) #[true,false,false,false,false,false,false,false] rfl rfl (any_of HT_.out (by kernel_rfl)) (fun _ _ _ h=>h) (Or.inl ⟨by rfl,?_⟩) ?_ ?_
     rotate_left
     ·intro w'
      go_simp
      with_reducible rfl
     rotate_left
     ·simp only [Act.put,List.setIfInBounds_toArray,List.set_cons_zero,List.set_cons_succ,i64_w,i32_w]
      rfl
     refine pure_ (i:=2) (N:=some 23) (v:=?_) (a':=?_) #[true,false,true,false,false,false,false,false] rfl rfl (any_of HT_.out (by kernel_rfl)) (fun _ _ _ h=>h) (Or.inl ⟨by rfl,?_⟩) ?_ ?_
     rotate_left
     ·intro w'
      go_simp
      with_reducible rfl
     rotate_left
     ·simp only [Act.put,List.setIfInBounds_toArray,List.set_cons_zero,List.set_cons_succ,i64_w,i32_w]
      rfl
     refine take_ (i:=1) (N:=some 22) (v:=?_) (a':=?_) #[true,true,true,false,false,false,false,false] rfl rfl (take_ofW HT_.out HW_.out (by kernel_rfl)) (fun _ _ _ h=>h) (Or.inl ⟨by rfl,?_⟩) hHeld ?_ ?_
     rotate_left
     ·rintro w' ⟨s0,s1,s2,s3,s4⟩
      go_simp
      with_reducible rfl
     rotate_left
     ·simp only [Act.put,List.setIfInBounds_toArray,List.set_cons_zero,List.set_cons_succ,i64_w,i32_w]
      rfl
     refine take_ (i:=3) (N:=some 24) (v:=?_) (a':=?_) #[true,true,true,true,false,false,false,false] rfl rfl (take_ofW HT_.out HW_.out (by kernel_rfl)) (fun _ _ _ h=>h) (Or.inl ⟨by rfl,?_⟩) hHeld ?_ ?_
     rotate_left
     ·rintro w' ⟨s0,s1,s2,s3,s4⟩
      go_simp
      with_reducible rfl
     rotate_left
     ·simp only [Act.put,List.setIfInBounds_toArray,List.set_cons_zero,List.set_cons_succ,i64_w,i32_w]
      rfl
     refine pure_ (i:=4) (N:=some 25) (v:=?_) (a':=?_) #[true,true,true,true,true,false,false,false] rfl rfl (any_of HT_.out (by kernel_rfl)) (fun _ _ _ h=>h) (Or.inl ⟨by rfl,?_⟩) ?_ ?_
     rotate_left
     ·intro w'
      go_simp
      with_reducible rfl
     rotate_left
     ·simp only [Act.put,List.setIfInBounds_toArray,List.set_cons_zero,List.set_cons_succ,i64_w,i32_w]
      rfl
     refine take_ (i:=5) (N:=some 26) (v:=?_) (a':=?_) #[true,true,true,true,true,true,false,false] rfl rfl (take_ofW HT_.out HW_.out (by kernel_rfl)) (fun _ _ _ h=>h) (Or.inl ⟨by rfl,?_⟩) hHeld ?_ ?_
     rotate_left
     ·rintro w' ⟨s0,s1,s2,s3,s4⟩
      go_simp
      with_reducible rfl
     rotate_left
     ·simp only [Act.put,List.setIfInBounds_toArray,List.set_cons_zero,List.set_cons_succ,i64_w,i32_w]
      rfl
     refine pure_ (i:=6) (N:=some 27) (v:=?_) (a':=?_) #[true,true,true,true,true,true,true,false] rfl rfl (any_of HT_.out (by kernel_rfl)) (fun _ _ _ h=>h) (Or.inl ⟨by rfl,?_⟩) ?_ ?_
     rotate_left
     ·intro w'
      go_simp
      with_reducible rfl
     rotate_left
     ·simp only [Act.put,List.setIfInBounds_toArray,List.set_cons_zero,List.set_cons_succ,i64_w,i32_w]
      rfl
     refine last_ (i:=7) (N:=none) #[true,true,true,true,true,true,true,true] rfl rfl (one_of HT_.out (by kernel_rfl)) (by decide) (fun K hK=>?_)
     refine skip_ (w1:=?_) (by rfl) rfl ?_ ?_
     rotate_left
     ·go_simp
      rfl
     refine hK.out _ _ ?_
     clear hK K
     refine done_ (done_of HT_.out (by kernel_rfl)) ?_
     have hcz32_0 : w30.cell? ⟨gb188,0,none⟩ = some (.slice Ao12 t182.length co12):=(blk_cell BK188.out 0).trans rfl
     have hcz32_1 : w30.cell? ⟨gb188,1,none⟩ = some (.slice Ao14 t185.length co14):=(blk_cell BK188.out 1).trans rfl
     have hfz32_0:=blk_frozen BK188.out 0
     have hfz32_1:=blk_frozen BK188.out 1
     try go_wp2
     go_loopg [8,31] k (fun kq v8 v31 w'=>∃ (x8_1 : Int) (x29_1 : List ByteArray) (x31_1 : Int) (x189001_1 : List ByteArray) (x196001_1 : List ByteArray) (x200000_1 : List Bool) (x200001_1 : List ByteArray) (u189001 : Value) (u196001 : Value) (u200000 : Value) (u200001 : Value),v8 = .int .i64 x8_1∧v31 = .int .i64 x31_1∧Aside0 (spec_l1Compose.l0 kq x8_1 x29_1 (t185.length : Int) x31_1 t182 x189001_1 t189 x196001_1 x200000_1 x200001_1 = some r)∧Aside0 (kq ≤ k)∧Aside0 (Kd.R Kd.string 9 w' w.heap.size (fun k_=>some k_ ≠ (u196001 : Value).ownBlock∧some k_ ≠ (u200001 : Value).ownBlock) (.slice Ao14 t185.length co14) x29_1)∧Aside0 (Kd.R Kd.bool 4 w' w.heap.size (fun k_=>some k_ ≠ ((.slice Ao17 t189.length co17) : Value).ownBlock∧some k_ ≠ (u200000 : Value).ownBlock) (.slice Ao12 t182.length co12) t182)∧Aside0 (Kd.R Kd.string 9 w' w.heap.size (fun k_=>some k_ ≠ (u196001 : Value).ownBlock∧some k_ ≠ (u200001 : Value).ownBlock) u189001 x189001_1)∧Aside0 (Kd.R Kd.bool 4 w' w.heap.size (fun k_=>some k_ ≠ ((.slice Ao12 t182.length co12) : Value).ownBlock∧some k_ ≠ (u200000 : Value).ownBlock) (.slice Ao17 t189.length co17) t189)∧Aside0 (Kd.R Kd.string 9 w' w.heap.size (fun k_=>some k_ ≠ ((.slice Ao14 t185.length co14) : Value).ownBlock∧some k_ ≠ (u189001 : Value).ownBlock∧some k_ ≠ (u200001 : Value).ownBlock) u196001 x196001_1)∧Aside0 (Kd.R Kd.bool 4 w' w.heap.size (fun k_=>some k_ ≠ ((.slice Ao12 t182.length co12) : Value).ownBlock∧some k_ ≠ ((.slice Ao17 t189.length co17) : Value).ownBlock) u200000 x200000_1)∧Aside0 (Kd.R Kd.string 9 w' w.heap.size (fun k_=>some k_ ≠ ((.slice Ao14 t185.length co14) : Value).ownBlock∧some k_ ≠ (u189001 : Value).ownBlock∧some k_ ≠ (u196001 : Value).ownBlock) u200001 x200001_1)∧Aside0 (w'.heap[gb188]? = some (.cells #[(.slice Ao12 t182.length co12),u189001] 110 (0,0)))∧Aside0 (w'.heap[gb195]? = some (.cells #[(.slice Ao17 t189.length co17),u196001] 110 (0,0)))∧Aside0 (w'.heap[gb199]? = some (.cells #[u200000,u200001] 110 (0,0)))∧Aside0 (Below w.heap.size w w'))
     case atStart=>exact ⟨(0),(t185),(0),(t185),(t192),(([] : List Bool)),(y201),(.slice Ao14 t185.length co14),(.slice (some ad200) t192.length co20),(.slice none 0 0),(.slice (some ⟨go9,0,none⟩) y196.length co24),(by first|rfl|(simp;done)|(simp [*];done)),(by first|rfl|(simp;done)|(simp [*];done)),H',⟨Nat.le_refl _⟩,⟨by (with_reducible repeat (first|apply Kd.R_alloc|apply Kd.R_drewN|apply Kd.R_drew));exact Kd.R_mono (Kd.R_far (p:=⟨go9,0,none⟩) (Kd.R_mono HO187.out (fun k_ hk=>(⟨hk,fun e_=>hk.2 (by rw [e_];rfl)⟩ : _∧k_ ≠ go9))) (fun _ hk=>hk.2) (.string (rdOf ByteArray.empty t192 0))) (fun _ hk=>⟨hk.1.1,hk.1.2⟩)⟩,⟨by (with_reducible repeat (first|apply Kd.R_alloc|apply Kd.R_drewN|apply Kd.R_drew));exact Kd.R_mono (Kd.R_far (p:=⟨go9,0,none⟩) (Kd.R_types HO184.out GG9.out (by decide)) (fun _ hk=>hk.2) (.string (rdOf ByteArray.empty t192 0))) (fun _ hk=>⟨hk.1,(by simp [Value.ownBlock])⟩)⟩,⟨by (with_reducible repeat (first|apply Kd.R_alloc|apply Kd.R_drewN|apply Kd.R_drew));exact Kd.R_mono (Kd.R_far (p:=⟨go9,0,none⟩) (Kd.R_mono HO187.out (fun k_ hk=>(⟨hk,fun e_=>hk.2 (by rw [e_];rfl)⟩ : _∧k_ ≠ go9))) (fun _ hk=>hk.2) (.string (rdOf ByteArray.empty t192 0))) (fun _ hk=>⟨hk.1.1,hk.1.2⟩)⟩,⟨by (with_reducible repeat (first|apply Kd.R_alloc|apply Kd.R_drewN|apply Kd.R_drew));exact Kd.R_mono (Kd.R_far (p:=⟨go9,0,none⟩) (Kd.R_types HO191.out GG9.out (by decide)) (fun _ hk=>hk.2) (.string (rdOf ByteArray.empty t192 0))) (fun _ hk=>⟨hk.1,(by simp [Value.ownBlock])⟩)⟩,⟨by (with_reducible repeat (first|apply Kd.R_alloc|apply Kd.R_drewN|apply Kd.R_drew));exact Kd.R_mono (Kd.R_far (p:=⟨go9,0,none⟩) (Kd.R_mono HO194.out (fun k_ hk=>(⟨hk,fun e_=>hk.2 (by rw [e_];rfl)⟩ : _∧k_ ≠ go9))) (fun _ hk=>hk.2) (.string (rdOf ByteArray.empty t192 0))) (fun _ hk=>⟨hk.1.1,⟨hk.1.1,hk.1.2⟩⟩)⟩,⟨by first|exact Kd.R_nil _ _ _ _ _|exact Kd.N_nil _ _ _ _ _|exact Kd.V_nil _ _ _ _ _|exact Kd.Q_nil _ _ _ _ _|exact Kd.S_nil _ _ _ _ _⟩,⟨by (with_reducible repeat (first|apply Kd.R_alloc|apply Kd.R_drewN|apply Kd.R_drew));exact Kd.R_mono HQ31.out (fun _ hk=>⟨hk.1,⟨hk.1,hk.2⟩⟩)⟩,⟨by (with_reducible repeat first|apply blk_drewN|apply blk_drew|apply blk_alloc);refine blk_far ?_ (by have h_:=Kd.R_ne HO198.out BK188.out (by decide);intro e_;exact h_ (by rw [e_];rfl)) _;(with_reducible repeat first|apply blk_drewN|apply blk_drew|apply blk_alloc);exact BK188.out⟩,⟨by (with_reducible repeat first|apply blk_drewN|apply blk_drew|apply blk_alloc);refine blk_far ?_ (by have h_:=Kd.R_ne HO198.out BK195.out (by decide);intro e_;exact h_ (by rw [e_];rfl)) _;(with_reducible repeat first|apply blk_drewN|apply blk_drew|apply blk_alloc);exact BK195.out⟩,⟨by (with_reducible repeat first|apply blk_drewN|apply blk_drew|apply blk_alloc);refine blk_far ?_ (by have h_:=Kd.R_ne HO198.out BK199.out (by decide);intro e_;exact h_ (by rw [e_];rfl)) _;(with_reducible repeat first|apply blk_drewN|apply blk_drew|apply blk_alloc);exact BK199.out⟩,⟨by repeat (first|(with_reducible first|exact HB.out|apply below_alloc|apply pw_below_drewN|apply below_drew1|refine below_set ?_ GB9.out|refine below_set ?_ GE188.out|refine below_set ?_ GE195.out|refine below_set ?_ GE199.out)|exact HB.out)⟩⟩
     case round =>
      clear H'
      (try clear c1);(try clear c2);(try clear p2);(try clear q2);(try clear hx2);(try clear qi2);(try clear c5);(try clear c5b0);(try clear c5b1);(try clear c6);(try clear c6b0);(try clear c6b1);(try clear c7);(try clear c7b0);(try clear c7b1);(try clear c8);(try clear c8b0);(try clear c8b1);(try clear p9);(try clear q9);(try clear hx9);(try clear qi9);(try clear hf9);(try clear c18);(try clear p20);(try clear q20);(try clear hx20);(try clear qi20);(try clear c26);(try clear c27);(try clear hcz13_0);(try clear hcz13_1);(try clear hcz19_0);(try clear hcz19_1);(try clear hcz21_0);(try clear hcz21_1);(try clear hcz28_0);(try clear hcz28_1);(try clear hcz32_0);(try clear hcz32_1);(try clear hfz13_0);(try clear hfz13_1);(try clear hfz19_0);(try clear hfz19_1);(try clear hfz21_0);(try clear hfz21_1);(try clear hfz28_0);(try clear hfz28_1);(try clear hfz32_0);(try clear hfz32_1);(try clear hx200_0);(try clear hx9_0);(try clear p200);(try clear p9);(try clear q200);(try clear q9);(try clear BK188);(try clear BK195);(try clear BK199)
      obtain ⟨x8_1,x29_1,x31_1,x189001_1,x196001_1,x200000_1,x200001_1,u189001,u196001,u200000,u200001,rfl,rfl,HA,HK1,HO_29,HO_189000,HO_189001,HO_196000,HO_196001,HO_200000,HO_200001,BK188,BK195,BK199,HB⟩:=hrel
      have hl29_1:=(Kd.R_reads' HO_29.out).1
      rw [hl29_1] at HO_29
      (try simp only [hl29_1])
      (try simp only [hl29_1] at BK188)
      (try simp only [hl29_1] at BK195)
      (try simp only [hl29_1] at BK199)
      (try simp only [hl29_1] at HO_189000)
      (try simp only [hl29_1] at HO_189001)
      (try simp only [hl29_1] at HO_196000)
      (try simp only [hl29_1] at HO_196001)
      (try simp only [hl29_1] at HO_200000)
      (try simp only [hl29_1] at HO_200001)
      cases gk with
      | zero=>exact absurd HA.out (by simp [spec_l1Compose.l0])
      | succ k1 =>
       have H:=HA.out
       clear HA
       simp only [spec_l1Compose.l0] at H
       by_cases c33 : x31_1 < (t185.length : Int)
       ·rw [if_pos c33] at H
        have c33b0 : decide (x31_1 < (t185.length : Int)) = true:=decide_eq_true c33
        (try (have c33h0:=c33b0;rw [hl29_1] at c33h0))
        clear c33
        by_cases c34 : 0 ≤ x31_1
        ·rw [if_pos c34] at H
         have c34b0 : decide (0 ≤ x31_1) = true:=decide_eq_true c34
         clear c34
         by_cases c35 : x31_1 < (x29_1.length : Int)
         ·rw [if_pos c35] at H
          have c35b0 : decide (x31_1 < (x29_1.length : Int)) = true:=decide_eq_true c35
          (try (have c35h0:=c35b0;rw [hl29_1] at c35h0))
          clear c35
          have H':=Aside0.mk H
          clear H
          have p205 : 0 ≤ (x31_1 : Int):=of_decide_eq_true (by assumption)
          have q205 : x31_1 < (x29_1.length : Int):=of_decide_eq_true (by assumption)
          obtain ⟨ad205,e205,hx205_0⟩:=Kd.at_string (Kd.R_reads' HO_29.out).2.2 x31_1 p205 q205
          cases e205
          replace p205:=eq_true p205
          replace q205:=eq_true q205
          go_wp2
          go_loopg [8,11] k1 (fun kq v8 v11 w'=>∃ (x8_2 : Int) (x11_2 : Int) (x29_2 : List ByteArray) (x189001_2 : List ByteArray) (x196001_2 : List ByteArray) (x200001_2 : List ByteArray) (u189001 : Value) (u196001 : Value) (u200001 : Value),v8 = .int .i64 x8_2∧v11 = .int .i64 x11_2∧Aside0 (spec_l1Compose.l1 kq x8_2 x31_1 (rdOf ByteArray.empty x29_1 x31_1) x11_2 x29_2 (t185.length : Int) x31_1 t182 x189001_2 t189 x196001_2 x200000_1 x200001_2 = some r)∧Aside0 (kq ≤ k1)∧Aside0 (Kd.R Kd.string 9 w' w.heap.size (fun k_=>some k_ ≠ (u196001 : Value).ownBlock∧some k_ ≠ (u200001 : Value).ownBlock) (.slice (some ad205) x29_1.length co14) x29_2)∧Aside0 (Kd.R Kd.bool 4 w' w.heap.size (fun k_=>some k_ ≠ ((.slice Ao17 t189.length co17) : Value).ownBlock∧some k_ ≠ (u200000 : Value).ownBlock) (.slice Ao12 t182.length co12) t182)∧Aside0 (Kd.R Kd.string 9 w' w.heap.size (fun k_=>some k_ ≠ (u196001 : Value).ownBlock∧some k_ ≠ (u200001 : Value).ownBlock) u189001 x189001_2)∧Aside0 (Kd.R Kd.bool 4 w' w.heap.size (fun k_=>some k_ ≠ ((.slice Ao12 t182.length co12) : Value).ownBlock∧some k_ ≠ (u200000 : Value).ownBlock) (.slice Ao17 t189.length co17) t189)∧Aside0 (Kd.R Kd.string 9 w' w.heap.size (fun k_=>some k_ ≠ ((.slice (some ad205) x29_1.length co14) : Value).ownBlock∧some k_ ≠ (u189001 : Value).ownBlock∧some k_ ≠ (u200001 : Value).ownBlock) u196001 x196001_2)∧Aside0 (Kd.R Kd.bool 4 w' w.heap.size (fun k_=>some k_ ≠ ((.slice Ao12 t182.length co12) : Value).ownBlock∧some k_ ≠ ((.slice Ao17 t189.length co17) : Value).ownBlock) u200000 x200000_1)∧Aside0 (Kd.R Kd.string 9 w' w.heap.size (fun k_=>some k_ ≠ ((.slice (some ad205) x29_1.length co14) : Value).ownBlock∧some k_ ≠ (u189001 : Value).ownBlock∧some k_ ≠ (u196001 : Value).ownBlock) u200001 x200001_2)∧Aside0 (w'.heap[gb188]? = some (.cells #[(.slice Ao12 t182.length co12),u189001] 110 (0,0)))∧Aside0 (w'.heap[gb195]? = some (.cells #[(.slice Ao17 t189.length co17),u196001] 110 (0,0)))∧Aside0 (w'.heap[gb199]? = some (.cells #[u200000,u200001] 110 (0,0)))∧Aside0 (Below w.heap.size w w'))
          case atStart=>exact ⟨(x8_1),(0),(x29_1),(x189001_1),(x196001_1),(x200001_1),(u189001),(u196001),(u200001),(by first|rfl|(simp;done)|(simp [*];done)),(by first|rfl|(simp;done)|(simp [*];done)),H',⟨Nat.le_refl _⟩,⟨by (try simp only [hl29_1]);(with_reducible repeat (first|apply Kd.R_alloc|apply Kd.R_drewN|apply Kd.R_drew));exact HO_29.out⟩,⟨by (try simp only [hl29_1]);(with_reducible repeat (first|apply Kd.R_alloc|apply Kd.R_drewN|apply Kd.R_drew));exact HO_189000.out⟩,⟨by (try simp only [hl29_1]);(with_reducible repeat (first|apply Kd.R_alloc|apply Kd.R_drewN|apply Kd.R_drew));exact HO_189001.out⟩,⟨by (try simp only [hl29_1]);(with_reducible repeat (first|apply Kd.R_alloc|apply Kd.R_drewN|apply Kd.R_drew));exact HO_196000.out⟩,⟨by (try simp only [hl29_1]);(with_reducible repeat (first|apply Kd.R_alloc|apply Kd.R_drewN|apply Kd.R_drew));exact HO_196001.out⟩,⟨by (try simp only [hl29_1]);(with_reducible repeat (first|apply Kd.R_alloc|apply Kd.R_drewN|apply Kd.R_drew));exact HO_200000.out⟩,⟨by (try simp only [hl29_1]);(with_reducible repeat (first|apply Kd.R_alloc|apply Kd.R_drewN|apply Kd.R_drew));exact HO_200001.out⟩,⟨by (try simp only [hl29_1]);(with_reducible repeat first|apply blk_drewN|apply blk_drew|apply blk_alloc);exact BK188.out⟩,⟨by (try simp only [hl29_1]);(with_reducible repeat first|apply blk_drewN|apply blk_drew|apply blk_alloc);exact BK195.out⟩,⟨by (try simp only [hl29_1]);(with_reducible repeat first|apply blk_drewN|apply blk_drew|apply blk_alloc);exact BK199.out⟩,⟨by repeat (first|(with_reducible first|exact HB.out|apply below_alloc|apply pw_below_drewN|apply below_drew1|refine below_set ?_ GE188.out|refine below_set ?_ GE195.out|refine below_set ?_ GE199.out)|exact HB.out)⟩⟩
          case round =>
           clear H'
           (try clear c1);(try clear c2);(try clear p2);(try clear q2);(try clear hx2);(try clear qi2);(try clear c3);(try clear c5);(try clear c5b0);(try clear c5b1);(try clear c6);(try clear c6b0);(try clear c6b1);(try clear c7);(try clear c7b0);(try clear c7b1);(try clear c8);(try clear c8b0);(try clear c8b1);(try clear p9);(try clear q9);(try clear hx9);(try clear qi9);(try clear hf9);(try clear c18);(try clear p20);(try clear q20);(try clear hx20);(try clear qi20);(try clear c26);(try clear c27);(try clear c33);(try clear c33b0);(try clear c34);(try clear c34b0);(try clear c35);(try clear c35b0);(try clear hcz13_0);(try clear hcz13_1);(try clear hcz19_0);(try clear hcz19_1);(try clear hcz21_0);(try clear hcz21_1);(try clear hcz28_0);(try clear hcz28_1);(try clear hcz32_0);(try clear hcz32_1);(try clear hfz13_0);(try clear hfz13_1);(try clear hfz19_0);(try clear hfz19_1);(try clear hfz21_0);(try clear hfz21_1);(try clear hfz28_0);(try clear hfz28_1);(try clear hfz32_0);(try clear hfz32_1);(try clear hx200_0);(try clear hx205_0);(try clear hx9_0);(try clear p2);(try clear p20);(try clear p200);(try clear p205);(try clear p9);(try clear q2);(try clear q20);(try clear q200);(try clear q205);(try clear q9);(try clear BK188);(try clear BK195);(try clear BK199)
           obtain ⟨x8_2,x11_2,x29_2,x189001_2,x196001_2,x200001_2,u189001,u196001,u200001,rfl,rfl,HA,HK2,HO_29,HO_189000,HO_189001,HO_196000,HO_196001,HO_200000,HO_200001,BK188,BK195,BK199,HB⟩:=hrel
           have hl29_2:=(Kd.R_reads' HO_29.out).1
           rw [hl29_2] at HO_29
           (try simp only [hl29_2])
           (try simp only [hl29_2] at BK188)
           (try simp only [hl29_2] at BK195)
           (try simp only [hl29_2] at BK199)
           (try simp only [hl29_2] at HO_189000)
           (try simp only [hl29_2] at HO_189001)
           (try simp only [hl29_2] at HO_196000)
           (try simp only [hl29_2] at HO_196001)
           (try simp only [hl29_2] at HO_200000)
           (try simp only [hl29_2] at HO_200001)
           cases gk with
           | zero=>exact absurd HA.out (by simp [spec_l1Compose.l1])
           | succ k2 =>
            have H:=HA.out
            clear HA
            simp only [spec_l1Compose.l1] at H
            by_cases c36 : x11_2 < ((rdOf ByteArray.empty x29_1 x31_1).size : Int)
            ·rw [if_pos c36] at H
             have c36b0 : decide (x11_2 < ((rdOf ByteArray.empty x29_1 x31_1).size : Int)) = true:=decide_eq_true c36
             clear c36
             by_cases c37 : 0 ≤ x8_2
             ·rw [if_pos c37] at H
              have c37b0 : decide (0 ≤ x8_2) = true:=decide_eq_true c37
              clear c37
              by_cases c38 : x8_2 < (t189.length : Int)
              ·rw [if_pos c38] at H
               have c38b0 : decide (x8_2 < (t189.length : Int)) = true:=decide_eq_true c38
               (try (have c38h0:=c38b0;rw [hl29_1] at c38h0))
               (try (have c38h0:=c38b0;rw [hl29_2] at c38h0))
               clear c38
               obtain ⟨bq39,hbq39⟩ : ∃ b_ : Bool,b_ = (rdOf false t189 x8_2):=⟨_,rfl⟩
               replace H : (if bq39 = true then (if 0 ≤ x31_1 then (if x31_1 < (x200001_2.length : Int) then (if 0 ≤ x11_2 then (if x11_2 ≤ (wrap64 (x11_2 + 1)) then (if (wrap64 (x11_2 + 1)) ≤ ((rdOf ByteArray.empty x29_1 x31_1).size : Int) then (if (rdOf ByteArray.empty x200001_2 x31_1).size + ((rdOf ByteArray.empty x29_1 x31_1).extract (x11_2 : Int).toNat ((wrap64 (x11_2 + 1)) : Int).toNat).size ≤ 9223372036854775807 then ((some (x200001_2.set (x31_1 : Int).toNat ((rdOf ByteArray.empty x200001_2 x31_1) ++ ((rdOf ByteArray.empty x29_1 x31_1).extract (x11_2 : Int).toNat ((wrap64 (x11_2 + 1)) : Int).toNat)) : List ByteArray)).bind fun y208=>(if 0 ≤ (wrap64 (x8_2 + 1)) then (if (wrap64 (x8_2 + 1)) < (x196001_2.length : Int) then (if (rdOf ByteArray.empty y208 x31_1).size + (rdOf ByteArray.empty x196001_2 (wrap64 (x8_2 + 1))).size ≤ 9223372036854775807 then (spec_l1Compose.l1 k2 (wrap64 (x8_2 + 1)) x31_1 (rdOf ByteArray.empty x29_1 x31_1) (wrap64 (x11_2 + 1)) x29_2 (t185.length : Int) x31_1 t182 x189001_2 t189 x196001_2 x200000_1 (y208.set (x31_1 : Int).toNat ((rdOf ByteArray.empty y208 x31_1) ++ (rdOf ByteArray.empty x196001_2 (wrap64 (x8_2 + 1)))))) else (none)) else (none)) else (none))) else (none)) else (none)) else (none)) else (none)) else (none)) else (none)) else (if 0 ≤ x31_1 then (if x31_1 < (x200001_2.length : Int) then (if 0 ≤ (wrap64 (x8_2 + 1)) then (if (wrap64 (x8_2 + 1)) < (x196001_2.length : Int) then (if (rdOf ByteArray.empty x200001_2 x31_1).size + (rdOf ByteArray.empty x196001_2 (wrap64 (x8_2 + 1))).size ≤ 9223372036854775807 then (spec_l1Compose.l1 k2 (wrap64 (x8_2 + 1)) x31_1 (rdOf ByteArray.empty x29_1 x31_1) (wrap64 (x11_2 + 1)) x29_2 (t185.length : Int) x31_1 t182 x189001_2 t189 x196001_2 x200000_1 (x200001_2.set (x31_1 : Int).toNat ((rdOf ByteArray.empty x200001_2 x31_1) ++ (rdOf ByteArray.empty x196001_2 (wrap64 (x8_2 + 1)))))) else (none)) else (none)) else (none)) else (none)) else (none))) = some r:=by rw [← hbq39] at H;exact H
               have Nbq39:=Aside0.mk hbq39
               clear hbq39
               by_cases c40 : bq39 = true
               ·subst c40
                have H1 : (if 0 ≤ x31_1 then (if x31_1 < (x200001_2.length : Int) then (if 0 ≤ x11_2 then (if x11_2 ≤ (wrap64 (x11_2 + 1)) then (if (wrap64 (x11_2 + 1)) ≤ ((rdOf ByteArray.empty x29_1 x31_1).size : Int) then (if (rdOf ByteArray.empty x200001_2 x31_1).size + ((rdOf ByteArray.empty x29_1 x31_1).extract (x11_2 : Int).toNat ((wrap64 (x11_2 + 1)) : Int).toNat).size ≤ 9223372036854775807 then ((some (x200001_2.set (x31_1 : Int).toNat ((rdOf ByteArray.empty x200001_2 x31_1) ++ ((rdOf ByteArray.empty x29_1 x31_1).extract (x11_2 : Int).toNat ((wrap64 (x11_2 + 1)) : Int).toNat)) : List ByteArray)).bind fun y208=>(if 0 ≤ (wrap64 (x8_2 + 1)) then (if (wrap64 (x8_2 + 1)) < (x196001_2.length : Int) then (if (rdOf ByteArray.empty y208 x31_1).size + (rdOf ByteArray.empty x196001_2 (wrap64 (x8_2 + 1))).size ≤ 9223372036854775807 then (spec_l1Compose.l1 k2 (wrap64 (x8_2 + 1)) x31_1 (rdOf ByteArray.empty x29_1 x31_1) (wrap64 (x11_2 + 1)) x29_2 (t185.length : Int) x31_1 t182 x189001_2 t189 x196001_2 x200000_1 (y208.set (x31_1 : Int).toNat ((rdOf ByteArray.empty y208 x31_1) ++ (rdOf ByteArray.empty x196001_2 (wrap64 (x8_2 + 1)))))) else (none)) else (none)) else (none))) else (none)) else (none)) else (none)) else (none)) else (none)) else (none)) = some r:=by rw [if_pos rfl] at H;exact H
                clear H
                have H:=H1
                clear H1
                by_cases c41 : 0 ≤ x31_1
                ·rw [if_pos c41] at H
                 have c41b0 : decide (0 ≤ x31_1) = true:=decide_eq_true c41
                 clear c41
                 by_cases c42 : x31_1 < (x200001_2.length : Int)
                 ·rw [if_pos c42] at H
                  have c42b0 : decide (x31_1 < (x200001_2.length : Int)) = true:=decide_eq_true c42
                  (try (have c42h0:=c42b0;rw [hl29_1] at c42h0))
                  (try (have c42h0:=c42b0;rw [hl29_2] at c42h0))
                  clear c42
                  by_cases c43 : 0 ≤ x11_2
                  ·rw [if_pos c43] at H
                   have c43b0:=eq_true c43
                   have c43b1 : decide (0 ≤ x11_2) = true:=decide_eq_true c43
                   clear c43
                   by_cases c44 : x11_2 ≤ (wrap64 (x11_2 + 1))
                   ·rw [if_pos c44] at H
                    have c44b0:=eq_true c44
                    have c44b1 : decide (x11_2 ≤ (wrap64 (x11_2 + 1))) = true:=decide_eq_true c44
                    by_cases c45 : (wrap64 (x11_2 + 1)) ≤ ((rdOf ByteArray.empty x29_1 x31_1).size : Int)
                    ·rw [if_pos c45] at H
                     have c45b0:=eq_true c45
                     have c45b1 : decide ((wrap64 (x11_2 + 1)) ≤ ((rdOf ByteArray.empty x29_1 x31_1).size : Int)) = true:=decide_eq_true c45
                     by_cases c46 : (rdOf ByteArray.empty x200001_2 x31_1).size + ((rdOf ByteArray.empty x29_1 x31_1).extract (x11_2 : Int).toNat ((wrap64 (x11_2 + 1)) : Int).toNat).size ≤ 9223372036854775807
                     ·rw [if_pos c46] at H
                      have c46b0:=eq_true c46
                      have c46b1 : decide ((rdOf ByteArray.empty x200001_2 x31_1).size + ((rdOf ByteArray.empty x29_1 x31_1).extract (x11_2 : Int).toNat ((wrap64 (x11_2 + 1)) : Int).toNat).size ≤ 9223372036854775807) = true:=decide_eq_true c46
                      try have c46b2 : (9223372036854775807 < (rdOf ByteArray.empty x200001_2 x31_1).size + ((rdOf ByteArray.empty x29_1 x31_1).extract (x11_2 : Int).toNat ((wrap64 (x11_2 + 1)) : Int).toNat).size) = False:=eq_false (Nat.not_lt.2 c46)
                      try have c46b3 : (9223372036854775807 < (rdOf ByteArray.empty x200001_2 x31_1).size + (((wrap64 (x11_2 + 1)) : Int).toNat - (x11_2 : Int).toNat)) = False:=by have h_:=c46;rw [ByteArray.size_extract] at h_;simp only [eq_iff_iff,iff_false];omega
                      obtain ⟨y208,hy208⟩ : ∃ y_ : List ByteArray,y_ = (x200001_2.set (x31_1 : Int).toNat ((rdOf ByteArray.empty x200001_2 x31_1) ++ ((rdOf ByteArray.empty x29_1 x31_1).extract (x11_2 : Int).toNat ((wrap64 (x11_2 + 1)) : Int).toNat))):=⟨_,rfl⟩
                      replace H : (if 0 ≤ (wrap64 (x8_2 + 1)) then (if (wrap64 (x8_2 + 1)) < (x196001_2.length : Int) then (if (rdOf ByteArray.empty y208 x31_1).size + (rdOf ByteArray.empty x196001_2 (wrap64 (x8_2 + 1))).size ≤ 9223372036854775807 then (spec_l1Compose.l1 k2 (wrap64 (x8_2 + 1)) x31_1 (rdOf ByteArray.empty x29_1 x31_1) (wrap64 (x11_2 + 1)) x29_2 (t185.length : Int) x31_1 t182 x189001_2 t189 x196001_2 x200000_1 (y208.set (x31_1 : Int).toNat ((rdOf ByteArray.empty y208 x31_1) ++ (rdOf ByteArray.empty x196001_2 (wrap64 (x8_2 + 1)))))) else (none)) else (none)) else (none)) = some r:=by first|(rw [hy208];with_reducible exact H)|(have H2_:=(Option.bind_some _ _).symm.trans H;rw [hy208];with_reducible exact H2_)|(have H2_:=(Option.bind_some _ _).symm.trans H;with_reducible exact H2_)|with_reducible exact H|(rw [hy208];exact H)|exact H
                      have Ny208:=Aside0.mk hy208
                      clear hy208
                      obtain ⟨ji48,hji48⟩ : ∃ j_ : Int,(wrap64 (x8_2 + 1)) = j_:=⟨_,rfl⟩
                      replace H : (if 0 ≤ (ji48) then (if (ji48) < (x196001_2.length : Int) then (if (rdOf ByteArray.empty y208 x31_1).size + (rdOf ByteArray.empty x196001_2 (ji48)).size ≤ 9223372036854775807 then (spec_l1Compose.l1 k2 ji48 x31_1 (rdOf ByteArray.empty x29_1 x31_1) (wrap64 (x11_2 + 1)) x29_2 (t185.length : Int) x31_1 t182 x189001_2 t189 x196001_2 x200000_1 (y208.set (x31_1 : Int).toNat ((rdOf ByteArray.empty y208 x31_1) ++ (rdOf ByteArray.empty x196001_2 (ji48))))) else (none)) else (none)) else (none)) = some r:=by first|(rw [hji48] at H;exact H)|(simp only [hji48] at H ⊢;exact H)
                      have hji48w : (IntKind.i64.wrap (x8_2 + 1)) = ji48:=(i64_w _).trans hji48
                      by_cases c49 : 0 ≤ (ji48)
                      ·rw [if_pos c49] at H
                       have c49b0 : decide (0 ≤ (ji48)) = true:=decide_eq_true c49
                       clear c49
                       by_cases c50 : (ji48) < (x196001_2.length : Int)
                       ·rw [if_pos c50] at H
                        have c50b0 : decide ((ji48) < (x196001_2.length : Int)) = true:=decide_eq_true c50
                        (try (have c50h0:=c50b0;rw [hl29_1] at c50h0))
                        (try (have c50h0:=c50b0;rw [hl29_2] at c50h0))
                        clear c50
                        by_cases c51 : (rdOf ByteArray.empty y208 x31_1).size + (rdOf ByteArray.empty x196001_2 (ji48)).size ≤ 9223372036854775807
                        ·rw [if_pos c51] at H
                         have c51b0:=eq_true c51
                         have c51b1 : decide ((rdOf ByteArray.empty y208 x31_1).size + (rdOf ByteArray.empty x196001_2 (ji48)).size ≤ 9223372036854775807) = true:=decide_eq_true c51
                         try have c51b2 : (9223372036854775807 < (rdOf ByteArray.empty y208 x31_1).size + (rdOf ByteArray.empty x196001_2 (ji48)).size) = False:=eq_false (Nat.not_lt.2 c51)
                         obtain ⟨y211,hy211⟩ : ∃ y_ : List ByteArray,y_ = (y208.set (x31_1 : Int).toNat ((rdOf ByteArray.empty y208 x31_1) ++ (rdOf ByteArray.empty x196001_2 (ji48)))):=⟨_,rfl⟩
                         replace H : (spec_l1Compose.l1 k2 ji48 x31_1 (rdOf ByteArray.empty x29_1 x31_1) (wrap64 (x11_2 + 1)) x29_2 (t185.length : Int) x31_1 t182 x189001_2 t189 x196001_2 x200000_1 y211) = some r:=by first|(rw [hy211];with_reducible exact H)|(have H2_:=(Option.bind_some _ _).symm.trans H;rw [hy211];with_reducible exact H2_)|(have H2_:=(Option.bind_some _ _).symm.trans H;with_reducible exact H2_)|with_reducible exact H|(rw [hy211];exact H)|exact H
                         have Ny211:=Aside0.mk hy211
                         clear hy211
                         have H':=Aside0.mk H
                         clear H
                         have hnb53:=NB195_188.out
                         have hnc53:=NB188_195.out
                         have hnb54:=NB195_199.out
                         have hnc54:=NB199_195.out
                         have hcz55_0 : wr.cell? ⟨gb195,0,none⟩ = some (.slice Ao17 t189.length co17):=(blk_cell BK195.out 0).trans rfl
                         have hcz55_1 : wr.cell? ⟨gb195,1,none⟩ = some (u196001):=(blk_cell BK195.out 1).trans rfl
                         have hfz55_0:=blk_frozen BK195.out 0
                         have hfz55_1:=blk_frozen BK195.out 1
                         have p206 : 0 ≤ (x8_2 : Int):=of_decide_eq_true (by assumption)
                         have q206 : x8_2 < (t189.length : Int):=of_decide_eq_true (by assumption)
                         obtain ⟨ad206,e206,hx206_0⟩:=Kd.at_bool (Kd.R_reads' HO_196000.out).2.2 x8_2 p206 q206
                         (try rw [← Nbq39.out] at hx206_0)
                         cases e206
                         replace p206:=eq_true p206
                         replace q206:=eq_true q206
                         try go_wp2
                         have n0_:=Aside0.mk (Kd.R_drew HO_29.out)
                         have n1_:=Aside0.mk (Kd.R_drew HO_189000.out)
                         have n2_:=Aside0.mk (Kd.R_drew HO_189001.out)
                         have n3_:=Aside0.mk (Kd.R_drew HO_196000.out)
                         have n4_:=Aside0.mk (Kd.R_drew HO_196001.out)
                         have n5_:=Aside0.mk (Kd.R_drew HO_200000.out)
                         have n6_:=Aside0.mk (Kd.R_drew HO_200001.out)
                         have n7_:=Aside0.mk (blk_drew BK188.out)
                         have n8_:=Aside0.mk (blk_drew BK195.out)
                         have n9_:=Aside0.mk (blk_drew BK199.out)
                         have n10_:=Aside0.mk (below_drew1 HB.out)
                         clear HO_29
                         clear HO_189000
                         clear HO_189001
                         clear HO_196000
                         clear HO_196001
                         clear HO_200000
                         clear HO_200001
                         clear BK188
                         clear BK195
                         clear BK199
                         clear HB
                         have HO_29:=n0_
                         have HO_189000:=n1_
                         have HO_189001:=n2_
                         have HO_196000:=n3_
                         have HO_196001:=n4_
                         have HO_200000:=n5_
                         have HO_200001:=n6_
                         have BK188:=n7_
                         have BK195:=n8_
                         have BK199:=n9_
                         have HB:=n10_
                         clear n0_ n1_ n2_ n3_ n4_ n5_ n6_ n7_ n8_ n9_ n10_
                         obtain ⟨Ao57,co57,eo57⟩:=Kd.R_slice HO_200001.out
                         (first|subst eo57|(injection eo57 with f1_ f2_ f3_;have f4_:=f1_.symm;have f5_:=f3_.symm;clear f1_ f2_ f3_;subst f4_;subst f5_))
                         have p207 : 0 ≤ (x31_1 : Int):=of_decide_eq_true (by assumption)
                         have q207 : x31_1 < (x200001_2.length : Int):=of_decide_eq_true (by assumption)
                         obtain ⟨ad207,e207,hx207_0⟩:=Kd.at_string (Kd.R_reads' HO_200001.out).2.2 x31_1 p207 q207
                         cases e207
                         replace p207:=eq_true p207
                         replace q207:=eq_true q207
                         have p47 : 0 ≤ (x31_1 : Int):=of_decide_eq_true (by assumption)
                         have q47 : (x31_1 : Int) < ((x200001_2.length : Int) : Int):=of_decide_eq_true (by assumption)
                         obtain ⟨go47,co47,eo47,gb47,gl47,cl47,HG47⟩:=Kd.R_form HO_200001.out (by omega)
                         (first|cases eo47|(injection eo47 with ea_ en_ ec_;(first|subst ea_|(injection ea_ with ea_;subst ea_));subst ec_;clear en_))
                         have GB47:=Aside0.mk gb47
                         have GG47:=Aside0.mk HG47
                         clear gb47 gl47 HG47
                         (first|simp only [add_plain] at hx207_0|skip)
                         obtain ⟨hx47_0,hf47_0⟩:=Kd.R_celln (⟨#[]⟩ : ByteArray) HO_200001.out (x31_1 : Int) p47 q47
                         replace p47:=eq_true p47
                         replace q47:=eq_true q47
                         have HP58:=Kd.R_putn HO_200001.out (x31_1 : Int) ((rdOf ByteArray.empty x200001_2 x31_1) ++ ((rdOf ByteArray.empty x29_1 x31_1).extract (x11_2 : Int).toNat ((wrap64 (x11_2 + 1)) : Int).toNat))
                         rw [← Ny208.out] at HP58
                         have HQ58:=Aside0.mk HP58
                         clear HP58
                         refine start_ (n:=13) (S:=fun w'=>w'.cell? ⟨gb199,0,none⟩ = some (u200000)∧w'.cell? ⟨gb199,1,none⟩ = some (.slice (some ⟨go47,0,none⟩) x200001_2.length co57)∧w'.cell? ⟨go47,(x31_1).toNat,none⟩ = some (.string (rdOf ByteArray.empty x200001_2 x31_1))) (ds:=[12]) #[false,false,false,false,false,false,false,false,false,false,false,false,false] (by kernel_rfl) rfl rfl ⟨(blk_cell BK199.out 0).trans rfl,(blk_cell BK199.out 1).trans rfl,hx207_0⟩ (fun hHeld=>?_);refine with_tabW spec_l1Compose.tab13 spec_l1Compose.bits13 (fun HT_ HW_=>?_)
                         generalize wr.drew = w56 at HO_29 HO_189000 HO_189001 HO_196000 HO_196001 HO_200000 HO_200001 BK188 BK195 BK199 HB GG47 HQ58 hf47_0 hx207_0 hx47_0 hHeld ⊢
                         refine pure_ (i:=0) (N:=some 47) (v:=?_) (a':=?_) #[true,false,false,false,false,false,false,false,false,false,false,false,false] rfl rfl (any_of HT_.out (by kernel_rfl)) (fun _ _ _ h=>h) (Or.inl ⟨by rfl,?_⟩) ?_ ?_
                         rotate_left
                         ·intro w'
                          go_simp
                          with_reducible rfl
                         rotate_left
                         ·simp only [Act.put,List.setIfInBounds_toArray,List.set_cons_zero,List.set_cons_succ,i64_w,i32_w]
                          rfl
                         refine pure_ (i:=2) (N:=some 49) (v:=?_) (a':=?_) #[true,false,true,false,false,false,false,false,false,false,false,false,false] rfl rfl (any_of HT_.out (by kernel_rfl)) (fun _ _ _ h=>h) (Or.inl ⟨by rfl,?_⟩) ?_ ?_
                         rotate_left
                         ·intro w'
                          go_simp
                          with_reducible rfl
                         rotate_left
                         ·simp only [Act.put,List.setIfInBounds_toArray,List.set_cons_zero,List.set_cons_succ,i64_w,i32_w]
                          rfl
                         refine pure_ (i:=5) (N:=some 52) (v:=?_) (a':=?_) #[true,false,true,false,false,true,false,false,false,false,false,false,false] rfl rfl (any_of HT_.out (by kernel_rfl)) (fun _ _ _ h=>h) (Or.inl ⟨by rfl,?_⟩) ?_ ?_
                         rotate_left
                         ·intro w'
                          go_simp
                          with_reducible rfl
                         rotate_left
                         ·simp only [Act.put,List.setIfInBounds_toArray,List.set_cons_zero,List.set_cons_succ,i64_w,i32_w]
                          rfl
                         refine pure_ (i:=6) (N:=some 53) (v:=?_) (a':=?_) #[true,false,true,false,false,true,true,false,false,false,false,false,false] rfl rfl (any_of HT_.out (by kernel_rfl)) (fun _ _ _ h=>h) (Or.inl ⟨by rfl,?_⟩) ?_ ?_
                         rotate_left
                         ·intro w'
                          go_simp
                          with_reducible rfl
                         rotate_left
                         ·simp only [Act.put,List.setIfInBounds_toArray,List.set_cons_zero,List.set_cons_succ,i64_w,i32_w]
                          rfl
                         refine pure_ (i:=7) (N:=some 54) (v:=?_) (a':=?_) #[true,false,true,false,false,true,true,true,false,false,false,false,false] rfl rfl (any_of HT_.out (by kernel_rfl)) (fun _ _ _ h=>h) (Or.inl ⟨by rfl,?_⟩) ?_ ?_
                         rotate_left
                         ·intro w'
                          go_simp
                          with_reducible rfl
                         rotate_left
                         ·simp only [Act.put,List.setIfInBounds_toArray,List.set_cons_zero,List.set_cons_succ,i64_w,i32_w]
                          rfl
                         refine pure_ (i:=8) (N:=some 55) (v:=?_) (a':=?_) #[true,false,true,false,false,true,true,true,true,false,false,false,false] rfl rfl (any_of HT_.out (by kernel_rfl)) (fun _ _ _ h=>h) (Or.inl ⟨by rfl,?_⟩) ?_ ?_
                         rotate_left
                         ·intro w'
                          go_simp
                          with_reducible rfl
                         rotate_left
                         ·simp only [Act.put,List.setIfInBounds_toArray,List.set_cons_zero,List.set_cons_succ,i64_w,i32_w]
                          rfl
                         refine pure_ (i:=9) (N:=some 56) (v:=?_) (a':=?_) #[true,false,true,false,false,true,true,true,true,true,false,false,false] rfl rfl (any_of HT_.out (by kernel_rfl)) (fun _ _ _ h=>h) (Or.inl ⟨by rfl,?_⟩) ?_ ?_
                         rotate_left
                         ·intro w'
                          go_simp
                          with_reducible rfl
                         rotate_left
                         ·simp only [Act.put,List.setIfInBounds_toArray,List.set_cons_zero,List.set_cons_succ,i64_w,i32_w]
                          rfl
                         refine take_ (i:=1) (N:=some 48) (v:=?_) (a':=?_) #[true,true,true,false,false,true,true,true,true,true,false,false,false] rfl rfl (take_ofW HT_.out HW_.out (by kernel_rfl)) (fun _ _ _ h=>h) (Or.inl ⟨by rfl,?_⟩) hHeld ?_ ?_
                         rotate_left
                         ·rintro w' ⟨s0,s1,s2⟩
                          go_simp
                          with_reducible rfl
                         rotate_left
                         ·simp only [Act.put,List.setIfInBounds_toArray,List.set_cons_zero,List.set_cons_succ,i64_w,i32_w]
                          rfl
                         refine pure_ (i:=3) (N:=some 50) (v:=?_) (a':=?_) #[true,true,true,true,false,true,true,true,true,true,false,false,false] rfl rfl (any_of HT_.out (by kernel_rfl)) (fun _ _ _ h=>h) (Or.inl ⟨by rfl,?_⟩) ?_ ?_
                         rotate_left
                         ·intro w'
                          go_simp
                          with_reducible rfl
                         rotate_left
                         ·simp only [Act.put,List.setIfInBounds_toArray,List.set_cons_zero,List.set_cons_succ,i64_w,i32_w]
                          rfl
                         refine take_ (i:=4) (N:=some 51) (v:=?_) (a':=?_) #[true,true,true,true,true,true,true,true,true,true,false,false,false] rfl rfl (take_ofW HT_.out HW_.out (by kernel_rfl)) (fun _ _ _ h=>h) (Or.inl ⟨by rfl,?_⟩) hHeld ?_ ?_
                         rotate_left
                         ·rintro w' ⟨s0,s1,s2⟩
                          go_simp
                          with_reducible rfl
                         rotate_left
                         ·simp only [Act.put,List.setIfInBounds_toArray,List.set_cons_zero,List.set_cons_succ,i64_w,i32_w]
                          rfl
                         refine pure_ (i:=10) (N:=some 57) (v:=?_) (a':=?_) #[true,true,true,true,true,true,true,true,true,true,true,false,false] rfl rfl (any_of HT_.out (by kernel_rfl)) (fun _ _ _ h=>h) (Or.inl ⟨by rfl,?_⟩) ?_ ?_
                         rotate_left
                         ·intro w'
                          go_simp
                          with_reducible rfl
                         rotate_left
                         ·simp only [Act.put,List.setIfInBounds_toArray,List.set_cons_zero,List.set_cons_succ,i64_w,i32_w]
                          rfl
                         refine pure_ (i:=11) (N:=some 58) (v:=?_) (a':=?_) #[true,true,true,true,true,true,true,true,true,true,true,true,false] rfl rfl (any_of HT_.out (by kernel_rfl)) (fun _ _ _ h=>h) (Or.inl ⟨by rfl,?_⟩) ?_ ?_
                         rotate_left
                         ·intro w'
                          go_simp
                          with_reducible rfl
                         rotate_left
                         ·simp only [Act.put,List.setIfInBounds_toArray,List.set_cons_zero,List.set_cons_succ,i64_w,i32_w]
                          rfl
                         refine last_ (i:=12) (N:=none) #[true,true,true,true,true,true,true,true,true,true,true,true,true] rfl rfl (one_of HT_.out (by kernel_rfl)) (by decide) (fun K hK=>?_)
                         refine skip_ (w1:=?_) (by rfl) rfl ?_ ?_
                         rotate_left
                         ·go_simp
                          rfl
                         refine hK.out _ _ ?_
                         clear hK K
                         refine done_ (done_of HT_.out (by kernel_rfl)) ?_
                         try go_wp2
                         have n0_ : Aside0 (Kd.R Kd.string 9 (w56.setCell ⟨go47,(x31_1 : Int).toNat,none⟩ (.string ((rdOf ByteArray.empty x200001_2 x31_1) ++ ((rdOf ByteArray.empty x29_1 x31_1).extract (x11_2 : Int).toNat ((wrap64 (x11_2 + 1)) : Int).toNat)))) w.heap.size (fun k_=>some k_ ≠ (u196001 : Value).ownBlock∧some k_ ≠ (.slice (some ⟨go47,0,none⟩) x200001_2.length co57 : Value).ownBlock) (.slice (some ad205) x29_2.length co14) x29_2):=⟨by (with_reducible repeat (first|apply Kd.R_alloc|apply Kd.R_drewN|apply Kd.R_drew));exact Kd.R_mono (Kd.R_far (p:=⟨go47,(x31_1 : Int).toNat,none⟩) (Kd.R_mono HO_29.out (fun k_ hk=>(⟨hk,fun e_=>hk.2 (by rw [e_];rfl)⟩ : _∧k_ ≠ go47))) (fun _ hk=>hk.2) (.string ((rdOf ByteArray.empty x200001_2 x31_1) ++ ((rdOf ByteArray.empty x29_1 x31_1).extract (x11_2 : Int).toNat ((wrap64 (x11_2 + 1)) : Int).toNat)))) (fun _ hk=>⟨hk.1.1,hk.1.2⟩)⟩
                         have n1_ : Aside0 (Kd.R Kd.bool 4 (w56.setCell ⟨go47,(x31_1 : Int).toNat,none⟩ (.string ((rdOf ByteArray.empty x200001_2 x31_1) ++ ((rdOf ByteArray.empty x29_1 x31_1).extract (x11_2 : Int).toNat ((wrap64 (x11_2 + 1)) : Int).toNat)))) w.heap.size (fun k_=>some k_ ≠ (.slice (some ad206) t189.length co17 : Value).ownBlock∧some k_ ≠ (u200000 : Value).ownBlock) (.slice Ao12 t182.length co12) t182):=⟨by (with_reducible repeat (first|apply Kd.R_alloc|apply Kd.R_drewN|apply Kd.R_drew));exact Kd.R_mono (Kd.R_far (p:=⟨go47,(x31_1 : Int).toNat,none⟩) (Kd.R_types HO_189000.out GG47.out (by decide)) (fun _ hk=>hk.2) (.string ((rdOf ByteArray.empty x200001_2 x31_1) ++ ((rdOf ByteArray.empty x29_1 x31_1).extract (x11_2 : Int).toNat ((wrap64 (x11_2 + 1)) : Int).toNat)))) (fun _ hk=>⟨hk.1.1,hk.1.2⟩)⟩
                         have n2_ : Aside0 (Kd.R Kd.string 9 (w56.setCell ⟨go47,(x31_1 : Int).toNat,none⟩ (.string ((rdOf ByteArray.empty x200001_2 x31_1) ++ ((rdOf ByteArray.empty x29_1 x31_1).extract (x11_2 : Int).toNat ((wrap64 (x11_2 + 1)) : Int).toNat)))) w.heap.size (fun k_=>some k_ ≠ (u196001 : Value).ownBlock∧some k_ ≠ (.slice (some ⟨go47,0,none⟩) x200001_2.length co57 : Value).ownBlock) u189001 x189001_2):=⟨by (with_reducible repeat (first|apply Kd.R_alloc|apply Kd.R_drewN|apply Kd.R_drew));exact Kd.R_mono (Kd.R_far (p:=⟨go47,(x31_1 : Int).toNat,none⟩) (Kd.R_mono HO_189001.out (fun k_ hk=>(⟨hk,fun e_=>hk.2 (by rw [e_];rfl)⟩ : _∧k_ ≠ go47))) (fun _ hk=>hk.2) (.string ((rdOf ByteArray.empty x200001_2 x31_1) ++ ((rdOf ByteArray.empty x29_1 x31_1).extract (x11_2 : Int).toNat ((wrap64 (x11_2 + 1)) : Int).toNat)))) (fun _ hk=>⟨hk.1.1,hk.1.2⟩)⟩
                         have n3_ : Aside0 (Kd.R Kd.bool 4 (w56.setCell ⟨go47,(x31_1 : Int).toNat,none⟩ (.string ((rdOf ByteArray.empty x200001_2 x31_1) ++ ((rdOf ByteArray.empty x29_1 x31_1).extract (x11_2 : Int).toNat ((wrap64 (x11_2 + 1)) : Int).toNat)))) w.heap.size (fun k_=>some k_ ≠ (.slice Ao12 t182.length co12 : Value).ownBlock∧some k_ ≠ (u200000 : Value).ownBlock) (.slice (some ad206) t189.length co17) t189):=⟨by (with_reducible repeat (first|apply Kd.R_alloc|apply Kd.R_drewN|apply Kd.R_drew));exact Kd.R_mono (Kd.R_far (p:=⟨go47,(x31_1 : Int).toNat,none⟩) (Kd.R_types HO_196000.out GG47.out (by decide)) (fun _ hk=>hk.2) (.string ((rdOf ByteArray.empty x200001_2 x31_1) ++ ((rdOf ByteArray.empty x29_1 x31_1).extract (x11_2 : Int).toNat ((wrap64 (x11_2 + 1)) : Int).toNat)))) (fun _ hk=>⟨hk.1.1,hk.1.2⟩)⟩
                         have n4_ : Aside0 (Kd.R Kd.string 9 (w56.setCell ⟨go47,(x31_1 : Int).toNat,none⟩ (.string ((rdOf ByteArray.empty x200001_2 x31_1) ++ ((rdOf ByteArray.empty x29_1 x31_1).extract (x11_2 : Int).toNat ((wrap64 (x11_2 + 1)) : Int).toNat)))) w.heap.size (fun k_=>some k_ ≠ (.slice (some ad205) x29_2.length co14 : Value).ownBlock∧some k_ ≠ (u189001 : Value).ownBlock∧some k_ ≠ (.slice (some ⟨go47,0,none⟩) x200001_2.length co57 : Value).ownBlock) u196001 x196001_2):=⟨by (with_reducible repeat (first|apply Kd.R_alloc|apply Kd.R_drewN|apply Kd.R_drew));exact Kd.R_mono (Kd.R_far (p:=⟨go47,(x31_1 : Int).toNat,none⟩) (Kd.R_mono HO_196001.out (fun k_ hk=>(⟨hk,fun e_=>hk.2.2 (by rw [e_];rfl)⟩ : _∧k_ ≠ go47))) (fun _ hk=>hk.2) (.string ((rdOf ByteArray.empty x200001_2 x31_1) ++ ((rdOf ByteArray.empty x29_1 x31_1).extract (x11_2 : Int).toNat ((wrap64 (x11_2 + 1)) : Int).toNat)))) (fun _ hk=>⟨hk.1.1,⟨hk.1.2.1,hk.1.2.2⟩⟩)⟩
                         have n5_ : Aside0 (Kd.R Kd.bool 4 (w56.setCell ⟨go47,(x31_1 : Int).toNat,none⟩ (.string ((rdOf ByteArray.empty x200001_2 x31_1) ++ ((rdOf ByteArray.empty x29_1 x31_1).extract (x11_2 : Int).toNat ((wrap64 (x11_2 + 1)) : Int).toNat)))) w.heap.size (fun k_=>some k_ ≠ (.slice Ao12 t182.length co12 : Value).ownBlock∧some k_ ≠ (.slice (some ad206) t189.length co17 : Value).ownBlock) u200000 x200000_1):=⟨by (with_reducible repeat (first|apply Kd.R_alloc|apply Kd.R_drewN|apply Kd.R_drew));exact Kd.R_mono (Kd.R_far (p:=⟨go47,(x31_1 : Int).toNat,none⟩) (Kd.R_types HO_200000.out GG47.out (by decide)) (fun _ hk=>hk.2) (.string ((rdOf ByteArray.empty x200001_2 x31_1) ++ ((rdOf ByteArray.empty x29_1 x31_1).extract (x11_2 : Int).toNat ((wrap64 (x11_2 + 1)) : Int).toNat)))) (fun _ hk=>⟨hk.1.1,hk.1.2⟩)⟩
                         have n6_ : Aside0 (Kd.R Kd.string 9 (w56.setCell ⟨go47,(x31_1 : Int).toNat,none⟩ (.string ((rdOf ByteArray.empty x200001_2 x31_1) ++ ((rdOf ByteArray.empty x29_1 x31_1).extract (x11_2 : Int).toNat ((wrap64 (x11_2 + 1)) : Int).toNat)))) w.heap.size (fun k_=>some k_ ≠ (.slice (some ad205) x29_2.length co14 : Value).ownBlock∧some k_ ≠ (u189001 : Value).ownBlock∧some k_ ≠ (u196001 : Value).ownBlock) (.slice (some ⟨go47,0,none⟩) x200001_2.length co57) y208):=⟨by (with_reducible repeat (first|apply Kd.R_alloc|apply Kd.R_drewN|apply Kd.R_drew));exact HQ58.out⟩
                         have n7_ : Aside0 ((w56.setCell ⟨go47,(x31_1 : Int).toNat,none⟩ (.string ((rdOf ByteArray.empty x200001_2 x31_1) ++ ((rdOf ByteArray.empty x29_1 x31_1).extract (x11_2 : Int).toNat ((wrap64 (x11_2 + 1)) : Int).toNat)))).heap[gb188]? = some (.cells #[.slice Ao12 t182.length co12,u189001] 110 (0,0))):=⟨by (with_reducible repeat first|apply blk_drewN|apply blk_drew|apply blk_alloc);refine blk_far ?_ (by have h_:=Kd.R_ne HO_200001.out BK188.out (by decide);intro e_;exact h_ (by rw [e_];rfl)) _;(with_reducible repeat first|apply blk_drewN|apply blk_drew|apply blk_alloc);exact BK188.out⟩
                         have n8_ : Aside0 ((w56.setCell ⟨go47,(x31_1 : Int).toNat,none⟩ (.string ((rdOf ByteArray.empty x200001_2 x31_1) ++ ((rdOf ByteArray.empty x29_1 x31_1).extract (x11_2 : Int).toNat ((wrap64 (x11_2 + 1)) : Int).toNat)))).heap[gb195]? = some (.cells #[.slice (some ad206) t189.length co17,u196001] 110 (0,0))):=⟨by (with_reducible repeat first|apply blk_drewN|apply blk_drew|apply blk_alloc);refine blk_far ?_ (by have h_:=Kd.R_ne HO_200001.out BK195.out (by decide);intro e_;exact h_ (by rw [e_];rfl)) _;(with_reducible repeat first|apply blk_drewN|apply blk_drew|apply blk_alloc);exact BK195.out⟩
                         have n9_ : Aside0 ((w56.setCell ⟨go47,(x31_1 : Int).toNat,none⟩ (.string ((rdOf ByteArray.empty x200001_2 x31_1) ++ ((rdOf ByteArray.empty x29_1 x31_1).extract (x11_2 : Int).toNat ((wrap64 (x11_2 + 1)) : Int).toNat)))).heap[gb199]? = some (.cells #[u200000,.slice (some ⟨go47,0,none⟩) x200001_2.length co57] 110 (0,0))):=⟨by (with_reducible repeat first|apply blk_drewN|apply blk_drew|apply blk_alloc);refine blk_far ?_ (by have h_:=Kd.R_ne HO_200001.out BK199.out (by decide);intro e_;exact h_ (by rw [e_];rfl)) _;(with_reducible repeat first|apply blk_drewN|apply blk_drew|apply blk_alloc);exact BK199.out⟩
                         have n10_ : Aside0 (Below w.heap.size w (w56.setCell ⟨go47,(x31_1 : Int).toNat,none⟩ (.string ((rdOf ByteArray.empty x200001_2 x31_1) ++ ((rdOf ByteArray.empty x29_1 x31_1).extract (x11_2 : Int).toNat ((wrap64 (x11_2 + 1)) : Int).toNat))))):=⟨by repeat (first|(with_reducible first|exact HB.out|apply below_alloc|apply pw_below_drewN|apply below_drew1|refine below_set ?_ GB47.out|refine below_set ?_ GE188.out|refine below_set ?_ GE195.out|refine below_set ?_ GE199.out)|exact HB.out)⟩
                         (try clear HO_29)
                         (try clear HO_189000)
                         (try clear HO_189001)
                         (try clear HO_196000)
                         (try clear HO_196001)
                         (try clear HO_200000)
                         (try clear HO_200001)
                         (try clear BK188)
                         (try clear BK195)
                         (try clear BK199)
                         (try clear HB)
                         generalize (w56.setCell ⟨go47,(x31_1 : Int).toNat,none⟩ (.string ((rdOf ByteArray.empty x200001_2 x31_1) ++ ((rdOf ByteArray.empty x29_1 x31_1).extract (x11_2 : Int).toNat ((wrap64 (x11_2 + 1)) : Int).toNat)))) = w59 at n0_ n1_ n2_ n3_ n4_ n5_ n6_ n7_ n8_ n9_ n10_ ⊢
                         have HO_29:=n0_
                         have HO_189000:=n1_
                         have HO_189001:=n2_
                         have HO_196000:=n3_
                         have HO_196001:=n4_
                         have HO_200000:=n5_
                         have HO_200001:=n6_
                         have BK188:=n7_
                         have BK195:=n8_
                         have BK199:=n9_
                         have HB:=n10_
                         clear n0_ n1_ n2_ n3_ n4_ n5_ n6_ n7_ n8_ n9_ n10_
                         have n0_:=Aside0.mk (Kd.R_drew HO_29.out)
                         have n1_:=Aside0.mk (Kd.R_drew HO_189000.out)
                         have n2_:=Aside0.mk (Kd.R_drew HO_189001.out)
                         have n3_:=Aside0.mk (Kd.R_drew HO_196000.out)
                         have n4_:=Aside0.mk (Kd.R_drew HO_196001.out)
                         have n5_:=Aside0.mk (Kd.R_drew HO_200000.out)
                         have n6_:=Aside0.mk (Kd.R_drew HO_200001.out)
                         have n7_:=Aside0.mk (blk_drew BK188.out)
                         have n8_:=Aside0.mk (blk_drew BK195.out)
                         have n9_:=Aside0.mk (blk_drew BK199.out)
                         have n10_:=Aside0.mk (below_drew1 HB.out)
                         clear HO_29
                         clear HO_189000
                         clear HO_189001
                         clear HO_196000
                         clear HO_196001
                         clear HO_200000
                         clear HO_200001
                         clear BK188
                         clear BK195
                         clear BK199
                         clear HB
                         have HO_29:=n0_
                         have HO_189000:=n1_
                         have HO_189001:=n2_
                         have HO_196000:=n3_
                         have HO_196001:=n4_
                         have HO_200000:=n5_
                         have HO_200001:=n6_
                         have BK188:=n7_
                         have BK195:=n8_
                         have BK199:=n9_
                         have HB:=n10_
                         clear n0_ n1_ n2_ n3_ n4_ n5_ n6_ n7_ n8_ n9_ n10_
                         have p209 : 0 ≤ (x31_1 : Int):=of_decide_eq_true (by assumption)
                         have q209 : x31_1 < (y208.length : Int):=(by have h_ : (x31_1 : Int) < ((x200001_2.length : Int) : Int):=of_decide_eq_true (by assumption);first|(have e_:=(Kd.R_reads' HO_200001.out).1;omega)|simpa only [Ny208.out,List.length_set] using h_)
                         have ql209 : ((x31_1 : Int) < ((x200001_2.length : Int) : Int)) = True:=eq_true (of_decide_eq_true (by assumption))
                         obtain ⟨ad209,e209,hx209_0⟩:=Kd.at_string (Kd.R_reads' HO_200001.out).2.2 x31_1 p209 q209
                         obtain rfl : (⟨go47,0,none⟩ : Addr) = ad209:=(by injection e209)
                         (first|simp only [add_plain] at hx209_0|simp only [add_at] at hx209_0|simp only [Addr.add,Nat.zero_add] at hx209_0|skip)
                         replace p209:=eq_true p209
                         replace q209:=eq_true q209
                         obtain ⟨Ao61,co61,eo61⟩:=Kd.R_slice HO_196001.out
                         (first|subst eo61|(injection eo61 with f1_ f2_ f3_;have f4_:=f1_.symm;have f5_:=f3_.symm;clear f1_ f2_ f3_;subst f4_;subst f5_))
                         have p210 : 0 ≤ ((ji48) : Int):=of_decide_eq_true (by assumption)
                         have q210 : (ji48) < (x196001_2.length : Int):=of_decide_eq_true (by assumption)
                         obtain ⟨ad210,e210,hx210_0⟩:=Kd.at_string (Kd.R_reads' HO_196001.out).2.2 (ji48) p210 q210
                         cases e210
                         replace p210:=eq_true p210
                         replace q210:=eq_true q210
                         have p52 : 0 ≤ (x31_1 : Int):=of_decide_eq_true (by assumption)
                         have q52 : (x31_1 : Int) < ((x200001_2.length : Int) : Int):=of_decide_eq_true (by assumption)
                         obtain ⟨hx52_0,hf52_0⟩:=Kd.R_celln (⟨#[]⟩ : ByteArray) HO_200001.out (x31_1 : Int) p52 q52
                         replace p52:=eq_true p52
                         replace q52:=eq_true q52
                         have HP62:=Kd.R_putn HO_200001.out (x31_1 : Int) ((rdOf ByteArray.empty y208 x31_1) ++ (rdOf ByteArray.empty x196001_2 (ji48)))
                         rw [← Ny211.out] at HP62
                         have HQ62:=Aside0.mk HP62
                         clear HP62
                         refine start_ (n:=13) (S:=fun w'=>w'.cell? ⟨gb199,0,none⟩ = some (u200000)∧w'.cell? ⟨gb199,1,none⟩ = some (.slice (some ⟨go47,0,none⟩) x200001_2.length co57)∧w'.cell? ⟨gb195,0,none⟩ = some (.slice (some ad206) t189.length co17)∧w'.cell? ⟨gb195,1,none⟩ = some (.slice (some ad210) x196001_2.length co61)∧w'.cell? ⟨go47,(x31_1).toNat,none⟩ = some (.string (rdOf ByteArray.empty y208 x31_1))∧w'.cell? (ad210.add ((ji48)).toNat) = some (.string (rdOf ByteArray.empty x196001_2 (ji48)))) (ds:=[12]) #[false,false,false,false,false,false,false,false,false,false,false,false,false] (by kernel_rfl) rfl rfl ⟨(blk_cell BK199.out 0).trans rfl,(blk_cell BK199.out 1).trans rfl,(blk_cell BK195.out 0).trans rfl,(blk_cell BK195.out 1).trans rfl,hx209_0,hx210_0⟩ (fun hHeld=>?_);refine with_tabW spec_l1Compose.tab15 spec_l1Compose.bits15 (fun HT_ HW_=>?_)
                         generalize w59.drew = w60 at HO_29 HO_189000 HO_189001 HO_196000 HO_196001 HO_200000 HO_200001 BK188 BK195 BK199 HB HQ58 HQ62 hf52_0 hx209_0 hx210_0 hx52_0 hHeld ⊢
                         obtain ⟨_,hoq_⟩:=Kd.R_own HO_200001.out;obtain ⟨clq_,hcq_⟩:=own_typed hoq_ go47 (by simp [Value.ownBlock]);have GG47:=Aside0.mk hcq_;clear hcq_ hoq_
                         refine pure_ (i:=0) (N:=some 61) (v:=?_) (a':=?_) #[true,false,false,false,false,false,false,false,false,false,false,false,false] rfl rfl (any_of HT_.out (by kernel_rfl)) (fun _ _ _ h=>h) (Or.inl ⟨by rfl,?_⟩) ?_ ?_
                         rotate_left
                         ·intro w'
                          go_simp
                          with_reducible rfl
                         rotate_left
                         ·simp only [Act.put,List.setIfInBounds_toArray,List.set_cons_zero,List.set_cons_succ,i64_w,i32_w]
                          rfl
                         refine pure_ (i:=2) (N:=some 63) (v:=?_) (a':=?_) #[true,false,true,false,false,false,false,false,false,false,false,false,false] rfl rfl (any_of HT_.out (by kernel_rfl)) (fun _ _ _ h=>h) (Or.inl ⟨by rfl,?_⟩) ?_ ?_
                         rotate_left
                         ·intro w'
                          go_simp
                          with_reducible rfl
                         rotate_left
                         ·simp only [Act.put,List.setIfInBounds_toArray,List.set_cons_zero,List.set_cons_succ,i64_w,i32_w]
                          rfl
                         refine pure_ (i:=5) (N:=some 66) (v:=?_) (a':=?_) #[true,false,true,false,false,true,false,false,false,false,false,false,false] rfl rfl (any_of HT_.out (by kernel_rfl)) (fun _ _ _ h=>h) (Or.inl ⟨by rfl,?_⟩) ?_ ?_
                         rotate_left
                         ·intro w'
                          go_simp
                          with_reducible rfl
                         rotate_left
                         ·simp only [Act.put,List.setIfInBounds_toArray,List.set_cons_zero,List.set_cons_succ,i64_w,i32_w]
                          rfl
                         refine pure_ (i:=7) (N:=some 68) (v:=?_) (a':=?_) #[true,false,true,false,false,true,false,true,false,false,false,false,false] rfl rfl (any_of HT_.out (by kernel_rfl)) (fun _ _ _ h=>h) (Or.inl ⟨by rfl,?_⟩) ?_ ?_
                         rotate_left
                         ·intro w'
                          go_simp
                          with_reducible rfl
                         rotate_left
                         ·simp only [Act.put,List.setIfInBounds_toArray,List.set_cons_zero,List.set_cons_succ,i64_w,i32_w]
                          rfl
                         refine take_ (i:=1) (N:=some 62) (v:=?_) (a':=?_) #[true,true,true,false,false,true,false,true,false,false,false,false,false] rfl rfl (take_ofW HT_.out HW_.out (by kernel_rfl)) (fun _ _ _ h=>h) (Or.inl ⟨by rfl,?_⟩) hHeld ?_ ?_
                         rotate_left
                         ·rintro w' ⟨s0,s1,s2,s3,s4,s5⟩
                          go_simp
                          with_reducible rfl
                         rotate_left
                         ·simp only [Act.put,List.setIfInBounds_toArray,List.set_cons_zero,List.set_cons_succ,i64_w,i32_w]
                          rfl
                         refine pure_ (i:=3) (N:=some 64) (v:=?_) (a':=?_) #[true,true,true,true,false,true,false,true,false,false,false,false,false] rfl rfl (any_of HT_.out (by kernel_rfl)) (fun _ _ _ h=>h) (Or.inl ⟨by rfl,?_⟩) ?_ ?_
                         rotate_left
                         ·intro w'
                          go_simp
                          with_reducible rfl
                         rotate_left
                         ·simp only [Act.put,List.setIfInBounds_toArray,List.set_cons_zero,List.set_cons_succ,i64_w,i32_w]
                          rfl
                         refine take_ (i:=4) (N:=some 65) (v:=?_) (a':=?_) #[true,true,true,true,true,true,false,true,false,false,false,false,false] rfl rfl (take_ofW HT_.out HW_.out (by kernel_rfl)) (fun _ _ _ h=>h) (Or.inl ⟨by rfl,?_⟩) hHeld ?_ ?_
                         rotate_left
                         ·rintro w' ⟨s0,s1,s2,s3,s4,s5⟩
                          go_simp
                          with_reducible rfl
                         rotate_left
                         ·simp only [Act.put,List.setIfInBounds_toArray,List.set_cons_zero,List.set_cons_succ,i64_w,i32_w]
                          rfl
                         refine take_ (i:=6) (N:=some 67) (v:=?_) (a':=?_) #[true,true,true,true,true,true,true,true,false,false,false,false,false] rfl rfl (take_ofW HT_.out HW_.out (by kernel_rfl)) (fun _ _ _ h=>h) (Or.inl ⟨by rfl,?_⟩) hHeld ?_ ?_
                         rotate_left
                         ·rintro w' ⟨s0,s1,s2,s3,s4,s5⟩
                          go_simp
                          with_reducible rfl
                         rotate_left
                         ·simp only [Act.put,List.setIfInBounds_toArray,List.set_cons_zero,List.set_cons_succ,i64_w,i32_w]
                          rfl
                         refine pure_ (i:=8) (N:=some 69) (v:=?_) (a':=?_) #[true,true,true,true,true,true,true,true,true,false,false,false,false] rfl rfl (any_of HT_.out (by kernel_rfl)) (fun _ _ _ h=>h) (Or.inl ⟨by rfl,?_⟩) ?_ ?_
                         rotate_left
                         ·intro w'
                          go_simp
                          with_reducible rfl
                         rotate_left
                         ·simp only [Act.put,List.setIfInBounds_toArray,List.set_cons_zero,List.set_cons_succ,i64_w,i32_w]
                          rfl
                         refine take_ (i:=9) (N:=some 70) (v:=?_) (a':=?_) #[true,true,true,true,true,true,true,true,true,true,false,false,false] rfl rfl (take_ofW HT_.out HW_.out (by kernel_rfl)) (fun _ _ _ h=>h) (Or.inl ⟨by rfl,?_⟩) hHeld ?_ ?_
                         rotate_left
                         ·rintro w' ⟨s0,s1,s2,s3,s4,s5⟩
                          go_simp
                          with_reducible rfl
                         rotate_left
                         ·simp only [Act.put,List.setIfInBounds_toArray,List.set_cons_zero,List.set_cons_succ,i64_w,i32_w]
                          rfl
                         refine pure_ (i:=10) (N:=some 71) (v:=?_) (a':=?_) #[true,true,true,true,true,true,true,true,true,true,true,false,false] rfl rfl (any_of HT_.out (by kernel_rfl)) (fun _ _ _ h=>h) (Or.inl ⟨by rfl,?_⟩) ?_ ?_
                         rotate_left
                         ·intro w'
                          go_simp
                          with_reducible rfl
                         rotate_left
                         ·simp only [Act.put,List.setIfInBounds_toArray,List.set_cons_zero,List.set_cons_succ,i64_w,i32_w]
                          rfl
                         refine pure_ (i:=11) (N:=some 72) (v:=?_) (a':=?_) #[true,true,true,true,true,true,true,true,true,true,true,true,false] rfl rfl (any_of HT_.out (by kernel_rfl)) (fun _ _ _ h=>h) (Or.inl ⟨by rfl,?_⟩) ?_ ?_
                         rotate_left
                         ·intro w'
                          go_simp
                          with_reducible rfl
                         rotate_left
                         ·simp only [Act.put,List.setIfInBounds_toArray,List.set_cons_zero,List.set_cons_succ,i64_w,i32_w]
                          rfl
                         refine last_ (i:=12) (N:=none) #[true,true,true,true,true,true,true,true,true,true,true,true,true] rfl rfl (one_of HT_.out (by kernel_rfl)) (by decide) (fun K hK=>?_)
                         refine skip_ (w1:=?_) (by rfl) rfl ?_ ?_
                         rotate_left
                         ·go_simp
                          rfl
                         refine hK.out _ _ ?_
                         clear hK K
                         refine done_ (done_of HT_.out (by kernel_rfl)) ?_
                         try go_wp2
                         (try simp only [← hl29_2])
                         go_roundg k2
                         case measure=>have:=HK1.out;have:=HK2.out;omega
                         case rel=>exact ⟨(ji48),(wrap64 (x11_2 + 1)),(x29_2),(x189001_2),(x196001_2),(y211),(u189001),(.slice (some ad210) x196001_2.length co61),(.slice (some ⟨go47,0,none⟩) x200001_2.length co57),(by first|rfl|(simp;done)|(simp only [← hji48] <;> (first|rfl|simp))|(simp [*];done)),(by first|rfl|(simp;done)|(simp [*];done)),H',⟨by have:=HK1.out;have:=HK2.out;omega⟩,⟨by (try simp only [hl29_1]);(try simp only [hl29_2]);(with_reducible repeat (first|apply Kd.R_alloc|apply Kd.R_drewN|apply Kd.R_drew));exact Kd.R_mono (Kd.R_far (p:=⟨go47,(x31_1 : Int).toNat,none⟩) (Kd.R_mono HO_29.out (fun k_ hk=>(⟨hk,fun e_=>hk.2 (by rw [e_];rfl)⟩ : _∧k_ ≠ go47))) (fun _ hk=>hk.2) (.string ((rdOf ByteArray.empty y208 x31_1) ++ (rdOf ByteArray.empty x196001_2 (ji48))))) (fun _ hk=>⟨hk.1.1,hk.1.2⟩)⟩,⟨by (try simp only [hl29_1]);(try simp only [hl29_2]);(with_reducible repeat (first|apply Kd.R_alloc|apply Kd.R_drewN|apply Kd.R_drew));exact Kd.R_mono (Kd.R_far (p:=⟨go47,(x31_1 : Int).toNat,none⟩) (Kd.R_types HO_189000.out GG47.out (by decide)) (fun _ hk=>hk.2) (.string ((rdOf ByteArray.empty y208 x31_1) ++ (rdOf ByteArray.empty x196001_2 (ji48))))) (fun _ hk=>⟨hk.1.1,hk.1.2⟩)⟩,⟨by (try simp only [hl29_1]);(try simp only [hl29_2]);(with_reducible repeat (first|apply Kd.R_alloc|apply Kd.R_drewN|apply Kd.R_drew));exact Kd.R_mono (Kd.R_far (p:=⟨go47,(x31_1 : Int).toNat,none⟩) (Kd.R_mono HO_189001.out (fun k_ hk=>(⟨hk,fun e_=>hk.2 (by rw [e_];rfl)⟩ : _∧k_ ≠ go47))) (fun _ hk=>hk.2) (.string ((rdOf ByteArray.empty y208 x31_1) ++ (rdOf ByteArray.empty x196001_2 (ji48))))) (fun _ hk=>⟨hk.1.1,hk.1.2⟩)⟩,⟨by (try simp only [hl29_1]);(try simp only [hl29_2]);(with_reducible repeat (first|apply Kd.R_alloc|apply Kd.R_drewN|apply Kd.R_drew));exact Kd.R_mono (Kd.R_far (p:=⟨go47,(x31_1 : Int).toNat,none⟩) (Kd.R_types HO_196000.out GG47.out (by decide)) (fun _ hk=>hk.2) (.string ((rdOf ByteArray.empty y208 x31_1) ++ (rdOf ByteArray.empty x196001_2 (ji48))))) (fun _ hk=>⟨hk.1.1,hk.1.2⟩)⟩,⟨by (try simp only [hl29_1]);(try simp only [hl29_2]);(with_reducible repeat (first|apply Kd.R_alloc|apply Kd.R_drewN|apply Kd.R_drew));exact Kd.R_mono (Kd.R_far (p:=⟨go47,(x31_1 : Int).toNat,none⟩) (Kd.R_mono HO_196001.out (fun k_ hk=>(⟨hk,fun e_=>hk.2.2 (by rw [e_];rfl)⟩ : _∧k_ ≠ go47))) (fun _ hk=>hk.2) (.string ((rdOf ByteArray.empty y208 x31_1) ++ (rdOf ByteArray.empty x196001_2 (ji48))))) (fun _ hk=>⟨hk.1.1,⟨hk.1.2.1,hk.1.2.2⟩⟩)⟩,⟨by (try simp only [hl29_1]);(try simp only [hl29_2]);(with_reducible repeat (first|apply Kd.R_alloc|apply Kd.R_drewN|apply Kd.R_drew));exact Kd.R_mono (Kd.R_far (p:=⟨go47,(x31_1 : Int).toNat,none⟩) (Kd.R_types HO_200000.out GG47.out (by decide)) (fun _ hk=>hk.2) (.string ((rdOf ByteArray.empty y208 x31_1) ++ (rdOf ByteArray.empty x196001_2 (ji48))))) (fun _ hk=>⟨hk.1.1,hk.1.2⟩)⟩,⟨by (try simp only [hl29_1]);(try simp only [hl29_2]);(with_reducible repeat (first|apply Kd.R_alloc|apply Kd.R_drewN|apply Kd.R_drew));exact HQ62.out⟩,⟨by (try simp only [hl29_1]);(try simp only [hl29_2]);(with_reducible repeat first|apply blk_drewN|apply blk_drew|apply blk_alloc);refine blk_far ?_ (by have h_:=Kd.R_ne HO_200001.out BK188.out (by decide);intro e_;exact h_ (by rw [e_];rfl)) _;(with_reducible repeat first|apply blk_drewN|apply blk_drew|apply blk_alloc);exact BK188.out⟩,⟨by (try simp only [hl29_1]);(try simp only [hl29_2]);(with_reducible repeat first|apply blk_drewN|apply blk_drew|apply blk_alloc);refine blk_far ?_ (by have h_:=Kd.R_ne HO_200001.out BK195.out (by decide);intro e_;exact h_ (by rw [e_];rfl)) _;(with_reducible repeat first|apply blk_drewN|apply blk_drew|apply blk_alloc);exact BK195.out⟩,⟨by (try simp only [hl29_1]);(try simp only [hl29_2]);(with_reducible repeat first|apply blk_drewN|apply blk_drew|apply blk_alloc);refine blk_far ?_ (by have h_:=Kd.R_ne HO_200001.out BK199.out (by decide);intro e_;exact h_ (by rw [e_];rfl)) _;(with_reducible repeat first|apply blk_drewN|apply blk_drew|apply blk_alloc);exact BK199.out⟩,⟨by repeat (first|(with_reducible first|exact HB.out|apply below_alloc|apply pw_below_drewN|apply below_drew1|refine below_set ?_ GB47.out|refine below_set ?_ GE188.out|refine below_set ?_ GE195.out|refine below_set ?_ GE199.out)|exact HB.out)⟩⟩
                        ·rw [if_neg c51] at H
                         exact absurd H (by simp)
                       ·rw [if_neg c50] at H
                        exact absurd H (by simp)
                      ·rw [if_neg c49] at H
                       exact absurd H (by simp)
                     ·rw [if_neg c46] at H
                      exact absurd H (by simp)
                    ·rw [if_neg c45] at H
                     exact absurd H (by simp)
                   ·rw [if_neg c44] at H
                    exact absurd H (by simp)
                  ·rw [if_neg c43] at H
                   exact absurd H (by simp)
                 ·rw [if_neg c42] at H
                  exact absurd H (by simp)
                ·rw [if_neg c41] at H
                 exact absurd H (by simp)
               ·replace c40:=Bool.eq_false_iff.mpr c40
                subst c40
                have H1 : (if 0 ≤ x31_1 then (if x31_1 < (x200001_2.length : Int) then (if 0 ≤ (wrap64 (x8_2 + 1)) then (if (wrap64 (x8_2 + 1)) < (x196001_2.length : Int) then (if (rdOf ByteArray.empty x200001_2 x31_1).size + (rdOf ByteArray.empty x196001_2 (wrap64 (x8_2 + 1))).size ≤ 9223372036854775807 then (spec_l1Compose.l1 k2 (wrap64 (x8_2 + 1)) x31_1 (rdOf ByteArray.empty x29_1 x31_1) (wrap64 (x11_2 + 1)) x29_2 (t185.length : Int) x31_1 t182 x189001_2 t189 x196001_2 x200000_1 (x200001_2.set (x31_1 : Int).toNat ((rdOf ByteArray.empty x200001_2 x31_1) ++ (rdOf ByteArray.empty x196001_2 (wrap64 (x8_2 + 1)))))) else (none)) else (none)) else (none)) else (none)) else (none)) = some r:=by rw [if_neg (show ¬ (false = true) by decide)] at H;exact H
                clear H
                have H:=H1
                clear H1
                by_cases c63 : 0 ≤ x31_1
                ·rw [if_pos c63] at H
                 have c63b0 : decide (0 ≤ x31_1) = true:=decide_eq_true c63
                 clear c63
                 by_cases c64 : x31_1 < (x200001_2.length : Int)
                 ·rw [if_pos c64] at H
                  have c64b0 : decide (x31_1 < (x200001_2.length : Int)) = true:=decide_eq_true c64
                  (try (have c64h0:=c64b0;rw [hl29_1] at c64h0))
                  (try (have c64h0:=c64b0;rw [hl29_2] at c64h0))
                  clear c64
                  obtain ⟨ji65,hji65⟩ : ∃ j_ : Int,(wrap64 (x8_2 + 1)) = j_:=⟨_,rfl⟩
                  replace H : (if 0 ≤ (ji65) then (if (ji65) < (x196001_2.length : Int) then (if (rdOf ByteArray.empty x200001_2 x31_1).size + (rdOf ByteArray.empty x196001_2 (ji65)).size ≤ 9223372036854775807 then (spec_l1Compose.l1 k2 ji65 x31_1 (rdOf ByteArray.empty x29_1 x31_1) (wrap64 (x11_2 + 1)) x29_2 (t185.length : Int) x31_1 t182 x189001_2 t189 x196001_2 x200000_1 (x200001_2.set (x31_1 : Int).toNat ((rdOf ByteArray.empty x200001_2 x31_1) ++ (rdOf ByteArray.empty x196001_2 (ji65))))) else (none)) else (none)) else (none)) = some r:=by first|(rw [hji65] at H;exact H)|(simp only [hji65] at H ⊢;exact H)
                  have hji65w : (IntKind.i64.wrap (x8_2 + 1)) = ji65:=(i64_w _).trans hji65
                  by_cases c66 : 0 ≤ (ji65)
                  ·rw [if_pos c66] at H
                   have c66b0 : decide (0 ≤ (ji65)) = true:=decide_eq_true c66
                   clear c66
                   by_cases c67 : (ji65) < (x196001_2.length : Int)
                   ·rw [if_pos c67] at H
                    have c67b0 : decide ((ji65) < (x196001_2.length : Int)) = true:=decide_eq_true c67
                    (try (have c67h0:=c67b0;rw [hl29_1] at c67h0))
                    (try (have c67h0:=c67b0;rw [hl29_2] at c67h0))
                    clear c67
                    by_cases c68 : (rdOf ByteArray.empty x200001_2 x31_1).size + (rdOf ByteArray.empty x196001_2 (ji65)).size ≤ 9223372036854775807
                    ·rw [if_pos c68] at H
                     have c68b0:=eq_true c68
                     have c68b1 : decide ((rdOf ByteArray.empty x200001_2 x31_1).size + (rdOf ByteArray.empty x196001_2 (ji65)).size ≤ 9223372036854775807) = true:=decide_eq_true c68
                     try have c68b2 : (9223372036854775807 < (rdOf ByteArray.empty x200001_2 x31_1).size + (rdOf ByteArray.empty x196001_2 (ji65)).size) = False:=eq_false (Nat.not_lt.2 c68)
                     obtain ⟨y214,hy214⟩ : ∃ y_ : List ByteArray,y_ = (x200001_2.set (x31_1 : Int).toNat ((rdOf ByteArray.empty x200001_2 x31_1) ++ (rdOf ByteArray.empty x196001_2 (ji65)))):=⟨_,rfl⟩
                     replace H : (spec_l1Compose.l1 k2 ji65 x31_1 (rdOf ByteArray.empty x29_1 x31_1) (wrap64 (x11_2 + 1)) x29_2 (t185.length : Int) x31_1 t182 x189001_2 t189 x196001_2 x200000_1 y214) = some r:=by first|(rw [hy214];with_reducible exact H)|(have H2_:=(Option.bind_some _ _).symm.trans H;rw [hy214];with_reducible exact H2_)|(have H2_:=(Option.bind_some _ _).symm.trans H;with_reducible exact H2_)|with_reducible exact H|(rw [hy214];exact H)|exact H
                     have Ny214:=Aside0.mk hy214
                     clear hy214
                     have H':=Aside0.mk H
                     clear H
                     have hnb70:=NB195_188.out
                     have hnc70:=NB188_195.out
                     have hnb71:=NB195_199.out
                     have hnc71:=NB199_195.out
                     have hcz72_0 : wr.cell? ⟨gb195,0,none⟩ = some (.slice Ao17 t189.length co17):=(blk_cell BK195.out 0).trans rfl
                     have hcz72_1 : wr.cell? ⟨gb195,1,none⟩ = some (u196001):=(blk_cell BK195.out 1).trans rfl
                     have hfz72_0:=blk_frozen BK195.out 0
                     have hfz72_1:=blk_frozen BK195.out 1
                     have p206 : 0 ≤ (x8_2 : Int):=of_decide_eq_true (by assumption)
                     have q206 : x8_2 < (t189.length : Int):=of_decide_eq_true (by assumption)
                     obtain ⟨ad206,e206,hx206_0⟩:=Kd.at_bool (Kd.R_reads' HO_196000.out).2.2 x8_2 p206 q206
                     (try rw [← Nbq39.out] at hx206_0)
                     cases e206
                     replace p206:=eq_true p206
                     replace q206:=eq_true q206
                     try go_wp2
                     have n0_:=Aside0.mk (Kd.R_drew HO_29.out)
                     have n1_:=Aside0.mk (Kd.R_drew HO_189000.out)
                     have n2_:=Aside0.mk (Kd.R_drew HO_189001.out)
                     have n3_:=Aside0.mk (Kd.R_drew HO_196000.out)
                     have n4_:=Aside0.mk (Kd.R_drew HO_196001.out)
                     have n5_:=Aside0.mk (Kd.R_drew HO_200000.out)
                     have n6_:=Aside0.mk (Kd.R_drew HO_200001.out)
                     have n7_:=Aside0.mk (blk_drew BK188.out)
                     have n8_:=Aside0.mk (blk_drew BK195.out)
                     have n9_:=Aside0.mk (blk_drew BK199.out)
                     have n10_:=Aside0.mk (below_drew1 HB.out)
                     clear HO_29
                     clear HO_189000
                     clear HO_189001
                     clear HO_196000
                     clear HO_196001
                     clear HO_200000
                     clear HO_200001
                     clear BK188
                     clear BK195
                     clear BK199
                     clear HB
                     have HO_29:=n0_
                     have HO_189000:=n1_
                     have HO_189001:=n2_
                     have HO_196000:=n3_
                     have HO_196001:=n4_
                     have HO_200000:=n5_
                     have HO_200001:=n6_
                     have BK188:=n7_
                     have BK195:=n8_
                     have BK199:=n9_
                     have HB:=n10_
                     clear n0_ n1_ n2_ n3_ n4_ n5_ n6_ n7_ n8_ n9_ n10_
                     obtain ⟨Ao74,co74,eo74⟩:=Kd.R_slice HO_200001.out
                     (first|subst eo74|(injection eo74 with f1_ f2_ f3_;have f4_:=f1_.symm;have f5_:=f3_.symm;clear f1_ f2_ f3_;subst f4_;subst f5_))
                     have p212 : 0 ≤ (x31_1 : Int):=of_decide_eq_true (by assumption)
                     have q212 : x31_1 < (x200001_2.length : Int):=of_decide_eq_true (by assumption)
                     obtain ⟨ad212,e212,hx212_0⟩:=Kd.at_string (Kd.R_reads' HO_200001.out).2.2 x31_1 p212 q212
                     cases e212
                     replace p212:=eq_true p212
                     replace q212:=eq_true q212
                     obtain ⟨Ao75,co75,eo75⟩:=Kd.R_slice HO_196001.out
                     (first|subst eo75|(injection eo75 with f1_ f2_ f3_;have f4_:=f1_.symm;have f5_:=f3_.symm;clear f1_ f2_ f3_;subst f4_;subst f5_))
                     have p213 : 0 ≤ ((ji65) : Int):=of_decide_eq_true (by assumption)
                     have q213 : (ji65) < (x196001_2.length : Int):=of_decide_eq_true (by assumption)
                     obtain ⟨ad213,e213,hx213_0⟩:=Kd.at_string (Kd.R_reads' HO_196001.out).2.2 (ji65) p213 q213
                     cases e213
                     replace p213:=eq_true p213
                     replace q213:=eq_true q213
                     have p69 : 0 ≤ (x31_1 : Int):=of_decide_eq_true (by assumption)
                     have q69 : (x31_1 : Int) < ((x200001_2.length : Int) : Int):=of_decide_eq_true (by assumption)
                     obtain ⟨go69,co69,eo69,gb69,gl69,cl69,HG69⟩:=Kd.R_form HO_200001.out (by omega)
                     (first|cases eo69|(injection eo69 with ea_ en_ ec_;(first|subst ea_|(injection ea_ with ea_;subst ea_));subst ec_;clear en_))
                     have GB69:=Aside0.mk gb69
                     have GG69:=Aside0.mk HG69
                     clear gb69 gl69 HG69
                     (first|simp only [add_plain] at hx212_0|skip)
                     obtain ⟨hx69_0,hf69_0⟩:=Kd.R_celln (⟨#[]⟩ : ByteArray) HO_200001.out (x31_1 : Int) p69 q69
                     replace p69:=eq_true p69
                     replace q69:=eq_true q69
                     have HP76:=Kd.R_putn HO_200001.out (x31_1 : Int) ((rdOf ByteArray.empty x200001_2 x31_1) ++ (rdOf ByteArray.empty x196001_2 (ji65)))
                     rw [← Ny214.out] at HP76
                     have HQ76:=Aside0.mk HP76
                     clear HP76
                     refine start_ (n:=13) (S:=fun w'=>w'.cell? ⟨gb199,0,none⟩ = some (u200000)∧w'.cell? ⟨gb199,1,none⟩ = some (.slice (some ⟨go69,0,none⟩) x200001_2.length co74)∧w'.cell? ⟨gb195,0,none⟩ = some (.slice (some ad206) t189.length co17)∧w'.cell? ⟨gb195,1,none⟩ = some (.slice (some ad213) x196001_2.length co75)∧w'.cell? ⟨go69,(x31_1).toNat,none⟩ = some (.string (rdOf ByteArray.empty x200001_2 x31_1))∧w'.cell? (ad213.add ((ji65)).toNat) = some (.string (rdOf ByteArray.empty x196001_2 (ji65)))) (ds:=[12]) #[false,false,false,false,false,false,false,false,false,false,false,false,false] (by kernel_rfl) rfl rfl ⟨(blk_cell BK199.out 0).trans rfl,(blk_cell BK199.out 1).trans rfl,(blk_cell BK195.out 0).trans rfl,(blk_cell BK195.out 1).trans rfl,hx212_0,hx213_0⟩ (fun hHeld=>?_);refine with_tabW spec_l1Compose.tab15 spec_l1Compose.bits15 (fun HT_ HW_=>?_)
                     generalize wr.drew = w73 at HO_29 HO_189000 HO_189001 HO_196000 HO_196001 HO_200000 HO_200001 BK188 BK195 BK199 HB GG69 HQ76 hf69_0 hx212_0 hx213_0 hx69_0 hHeld ⊢
                     refine pure_ (i:=0) (N:=some 61) (v:=?_) (a':=?_) #[true,false,false,false,false,false,false,false,false,false,false,false,false] rfl rfl (any_of HT_.out (by kernel_rfl)) (fun _ _ _ h=>h) (Or.inl ⟨by rfl,?_⟩) ?_ ?_
                     rotate_left
                     ·intro w'
                      go_simp
                      with_reducible rfl
                     rotate_left
                     ·simp only [Act.put,List.setIfInBounds_toArray,List.set_cons_zero,List.set_cons_succ,i64_w,i32_w]
                      rfl
                     refine pure_ (i:=2) (N:=some 63) (v:=?_) (a':=?_) #[true,false,true,false,false,false,false,false,false,false,false,false,false] rfl rfl (any_of HT_.out (by kernel_rfl)) (fun _ _ _ h=>h) (Or.inl ⟨by rfl,?_⟩) ?_ ?_
                     rotate_left
                     ·intro w'
                      go_simp
                      with_reducible rfl
                     rotate_left
                     ·simp only [Act.put,List.setIfInBounds_toArray,List.set_cons_zero,List.set_cons_succ,i64_w,i32_w]
                      rfl
                     refine pure_ (i:=5) (N:=some 66) (v:=?_) (a':=?_) #[true,false,true,false,false,true,false,false,false,false,false,false,false] rfl rfl (any_of HT_.out (by kernel_rfl)) (fun _ _ _ h=>h) (Or.inl ⟨by rfl,?_⟩) ?_ ?_
                     rotate_left
                     ·intro w'
                      go_simp
                      with_reducible rfl
                     rotate_left
                     ·simp only [Act.put,List.setIfInBounds_toArray,List.set_cons_zero,List.set_cons_succ,i64_w,i32_w]
                      rfl
                     refine pure_ (i:=7) (N:=some 68) (v:=?_) (a':=?_) #[true,false,true,false,false,true,false,true,false,false,false,false,false] rfl rfl (any_of HT_.out (by kernel_rfl)) (fun _ _ _ h=>h) (Or.inl ⟨by rfl,?_⟩) ?_ ?_
                     rotate_left
                     ·intro w'
                      go_simp
                      with_reducible rfl
                     rotate_left
                     ·simp only [Act.put,List.setIfInBounds_toArray,List.set_cons_zero,List.set_cons_succ,i64_w,i32_w]
                      rfl
                     refine take_ (i:=1) (N:=some 62) (v:=?_) (a':=?_) #[true,true,true,false,false,true,false,true,false,false,false,false,false] rfl rfl (take_ofW HT_.out HW_.out (by kernel_rfl)) (fun _ _ _ h=>h) (Or.inl ⟨by rfl,?_⟩) hHeld ?_ ?_
                     rotate_left
                     ·rintro w' ⟨s0,s1,s2,s3,s4,s5⟩
                      go_simp
                      with_reducible rfl
                     rotate_left
                     ·simp only [Act.put,List.setIfInBounds_toArray,List.set_cons_zero,List.set_cons_succ,i64_w,i32_w]
                      rfl
                     refine pure_ (i:=3) (N:=some 64) (v:=?_) (a':=?_) #[true,true,true,true,false,true,false,true,false,false,false,false,false] rfl rfl (any_of HT_.out (by kernel_rfl)) (fun _ _ _ h=>h) (Or.inl ⟨by rfl,?_⟩) ?_ ?_
                     rotate_left
                     ·intro w'
                      go_simp
                      with_reducible rfl
                     rotate_left
                     ·simp only [Act.put,List.setIfInBounds_toArray,List.set_cons_zero,List.set_cons_succ,i64_w,i32_w]
                      rfl
                     refine take_ (i:=4) (N:=some 65) (v:=?_) (a':=?_) #[true,true,true,true,true,true,false,true,false,false,false,false,false] rfl rfl (take_ofW HT_.out HW_.out (by kernel_rfl)) (fun _ _ _ h=>h) (Or.inl ⟨by rfl,?_⟩) hHeld ?_ ?_
                     rotate_left
                     ·rintro w' ⟨s0,s1,s2,s3,s4,s5⟩
                      go_simp
                      with_reducible rfl
                     rotate_left
                     ·simp only [Act.put,List.setIfInBounds_toArray,List.set_cons_zero,List.set_cons_succ,i64_w,i32_w]
                      rfl
                     refine take_ (i:=6) (N:=some 67) (v:=?_) (a':=?_) #[true,true,true,true,true,true,true,true,false,false,false,false,false] rfl rfl (take_ofW HT_.out HW_.out (by kernel_rfl)) (fun _ _ _ h=>h) (Or.inl ⟨by rfl,?_⟩) hHeld ?_ ?_
                     rotate_left
                     ·rintro w' ⟨s0,s1,s2,s3,s4,s5⟩
                      go_simp
                      with_reducible rfl
                     rotate_left
                     ·simp only [Act.put,List.setIfInBounds_toArray,List.set_cons_zero,List.set_cons_succ,i64_w,i32_w]
                      rfl
                     refine pure_ (i:=8) (N:=some 69) (v:=?_) (a':=?_) #[true,true,true,true,true,true,true,true,true,false,false,false,false] rfl rfl (any_of HT_.out (by kernel_rfl)) (fun _ _ _ h=>h) (Or.inl ⟨by rfl,?_⟩) ?_ ?_
                     rotate_left
                     ·intro w'
                      go_simp
                      with_reducible rfl
                     rotate_left
                     ·simp only [Act.put,List.setIfInBounds_toArray,List.set_cons_zero,List.set_cons_succ,i64_w,i32_w]
                      rfl
                     refine take_ (i:=9) (N:=some 70) (v:=?_) (a':=?_) #[true,true,true,true,true,true,true,true,true,true,false,false,false] rfl rfl (take_ofW HT_.out HW_.out (by kernel_rfl)) (fun _ _ _ h=>h) (Or.inl ⟨by rfl,?_⟩) hHeld ?_ ?_
                     rotate_left
                     ·rintro w' ⟨s0,s1,s2,s3,s4,s5⟩
                      go_simp
                      with_reducible rfl
                     rotate_left
                     ·simp only [Act.put,List.setIfInBounds_toArray,List.set_cons_zero,List.set_cons_succ,i64_w,i32_w]
                      rfl
                     refine pure_ (i:=10) (N:=some 71) (v:=?_) (a':=?_) #[true,true,true,true,true,true,true,true,true,true,true,false,false] rfl rfl (any_of HT_.out (by kernel_rfl)) (fun _ _ _ h=>h) (Or.inl ⟨by rfl,?_⟩) ?_ ?_
                     rotate_left
                     ·intro w'
                      go_simp
                      with_reducible rfl
                     rotate_left
                     ·simp only [Act.put,List.setIfInBounds_toArray,List.set_cons_zero,List.set_cons_succ,i64_w,i32_w]
                      rfl
                     refine pure_ (i:=11) (N:=some 72) (v:=?_) (a':=?_) #[true,true,true,true,true,true,true,true,true,true,true,true,false] rfl rfl (any_of HT_.out (by kernel_rfl)) (fun _ _ _ h=>h) (Or.inl ⟨by rfl,?_⟩) ?_ ?_
                     rotate_left
                     ·intro w'
                      go_simp
                      with_reducible rfl
                     rotate_left
                     ·simp only [Act.put,List.setIfInBounds_toArray,List.set_cons_zero,List.set_cons_succ,i64_w,i32_w]
                      rfl
                     refine last_ (i:=12) (N:=none) #[true,true,true,true,true,true,true,true,true,true,true,true,true] rfl rfl (one_of HT_.out (by kernel_rfl)) (by decide) (fun K hK=>?_)
                     refine skip_ (w1:=?_) (by rfl) rfl ?_ ?_
                     rotate_left
                     ·go_simp
                      rfl
                     refine hK.out _ _ ?_
                     clear hK K
                     refine done_ (done_of HT_.out (by kernel_rfl)) ?_
                     try go_wp2
                     (try simp only [← hl29_2])
                     go_roundg k2
                     case measure=>have:=HK1.out;have:=HK2.out;omega
                     case rel=>exact ⟨(ji65),(wrap64 (x11_2 + 1)),(x29_2),(x189001_2),(x196001_2),(y214),(u189001),(.slice (some ad213) x196001_2.length co75),(.slice (some ⟨go69,0,none⟩) x200001_2.length co74),(by first|rfl|(simp;done)|(simp only [← hji65] <;> (first|rfl|simp))|(simp [*];done)),(by first|rfl|(simp;done)|(simp [*];done)),H',⟨by have:=HK1.out;have:=HK2.out;omega⟩,⟨by (try simp only [hl29_1]);(try simp only [hl29_2]);(with_reducible repeat (first|apply Kd.R_alloc|apply Kd.R_drewN|apply Kd.R_drew));exact Kd.R_mono (Kd.R_far (p:=⟨go69,(x31_1 : Int).toNat,none⟩) (Kd.R_mono HO_29.out (fun k_ hk=>(⟨hk,fun e_=>hk.2 (by rw [e_];rfl)⟩ : _∧k_ ≠ go69))) (fun _ hk=>hk.2) (.string ((rdOf ByteArray.empty x200001_2 x31_1) ++ (rdOf ByteArray.empty x196001_2 (ji65))))) (fun _ hk=>⟨hk.1.1,hk.1.2⟩)⟩,⟨by (try simp only [hl29_1]);(try simp only [hl29_2]);(with_reducible repeat (first|apply Kd.R_alloc|apply Kd.R_drewN|apply Kd.R_drew));exact Kd.R_mono (Kd.R_far (p:=⟨go69,(x31_1 : Int).toNat,none⟩) (Kd.R_types HO_189000.out GG69.out (by decide)) (fun _ hk=>hk.2) (.string ((rdOf ByteArray.empty x200001_2 x31_1) ++ (rdOf ByteArray.empty x196001_2 (ji65))))) (fun _ hk=>⟨hk.1.1,hk.1.2⟩)⟩,⟨by (try simp only [hl29_1]);(try simp only [hl29_2]);(with_reducible repeat (first|apply Kd.R_alloc|apply Kd.R_drewN|apply Kd.R_drew));exact Kd.R_mono (Kd.R_far (p:=⟨go69,(x31_1 : Int).toNat,none⟩) (Kd.R_mono HO_189001.out (fun k_ hk=>(⟨hk,fun e_=>hk.2 (by rw [e_];rfl)⟩ : _∧k_ ≠ go69))) (fun _ hk=>hk.2) (.string ((rdOf ByteArray.empty x200001_2 x31_1) ++ (rdOf ByteArray.empty x196001_2 (ji65))))) (fun _ hk=>⟨hk.1.1,hk.1.2⟩)⟩,⟨by (try simp only [hl29_1]);(try simp only [hl29_2]);(with_reducible repeat (first|apply Kd.R_alloc|apply Kd.R_drewN|apply Kd.R_drew));exact Kd.R_mono (Kd.R_far (p:=⟨go69,(x31_1 : Int).toNat,none⟩) (Kd.R_types HO_196000.out GG69.out (by decide)) (fun _ hk=>hk.2) (.string ((rdOf ByteArray.empty x200001_2 x31_1) ++ (rdOf ByteArray.empty x196001_2 (ji65))))) (fun _ hk=>⟨hk.1.1,hk.1.2⟩)⟩,⟨by (try simp only [hl29_1]);(try simp only [hl29_2]);(with_reducible repeat (first|apply Kd.R_alloc|apply Kd.R_drewN|apply Kd.R_drew));exact Kd.R_mono (Kd.R_far (p:=⟨go69,(x31_1 : Int).toNat,none⟩) (Kd.R_mono HO_196001.out (fun k_ hk=>(⟨hk,fun e_=>hk.2.2 (by rw [e_];rfl)⟩ : _∧k_ ≠ go69))) (fun _ hk=>hk.2) (.string ((rdOf ByteArray.empty x200001_2 x31_1) ++ (rdOf ByteArray.empty x196001_2 (ji65))))) (fun _ hk=>⟨hk.1.1,⟨hk.1.2.1,hk.1.2.2⟩⟩)⟩,⟨by (try simp only [hl29_1]);(try simp only [hl29_2]);(with_reducible repeat (first|apply Kd.R_alloc|apply Kd.R_drewN|apply Kd.R_drew));exact Kd.R_mono (Kd.R_far (p:=⟨go69,(x31_1 : Int).toNat,none⟩) (Kd.R_types HO_200000.out GG69.out (by decide)) (fun _ hk=>hk.2) (.string ((rdOf ByteArray.empty x200001_2 x31_1) ++ (rdOf ByteArray.empty x196001_2 (ji65))))) (fun _ hk=>⟨hk.1.1,hk.1.2⟩)⟩,⟨by (try simp only [hl29_1]);(try simp only [hl29_2]);(with_reducible repeat (first|apply Kd.R_alloc|apply Kd.R_drewN|apply Kd.R_drew));exact HQ76.out⟩,⟨by (try simp only [hl29_1]);(try simp only [hl29_2]);(with_reducible repeat first|apply blk_drewN|apply blk_drew|apply blk_alloc);refine blk_far ?_ (by have h_:=Kd.R_ne HO_200001.out BK188.out (by decide);intro e_;exact h_ (by rw [e_];rfl)) _;(with_reducible repeat first|apply blk_drewN|apply blk_drew|apply blk_alloc);exact BK188.out⟩,⟨by (try simp only [hl29_1]);(try simp only [hl29_2]);(with_reducible repeat first|apply blk_drewN|apply blk_drew|apply blk_alloc);refine blk_far ?_ (by have h_:=Kd.R_ne HO_200001.out BK195.out (by decide);intro e_;exact h_ (by rw [e_];rfl)) _;(with_reducible repeat first|apply blk_drewN|apply blk_drew|apply blk_alloc);exact BK195.out⟩,⟨by (try simp only [hl29_1]);(try simp only [hl29_2]);(with_reducible repeat first|apply blk_drewN|apply blk_drew|apply blk_alloc);refine blk_far ?_ (by have h_:=Kd.R_ne HO_200001.out BK199.out (by decide);intro e_;exact h_ (by rw [e_];rfl)) _;(with_reducible repeat first|apply blk_drewN|apply blk_drew|apply blk_alloc);exact BK199.out⟩,⟨by repeat (first|(with_reducible first|exact HB.out|apply below_alloc|apply pw_below_drewN|apply below_drew1|refine below_set ?_ GB69.out|refine below_set ?_ GE188.out|refine below_set ?_ GE195.out|refine below_set ?_ GE199.out)|exact HB.out)⟩⟩
                    ·rw [if_neg c68] at H
                     exact absurd H (by simp)
                   ·rw [if_neg c67] at H
                    exact absurd H (by simp)
                  ·rw [if_neg c66] at H
                   exact absurd H (by simp)
                 ·rw [if_neg c64] at H
                  exact absurd H (by simp)
                ·rw [if_neg c63] at H
                 exact absurd H (by simp)
              ·rw [if_neg c38] at H
               exact absurd H (by simp)
             ·rw [if_neg c37] at H
              exact absurd H (by simp)
            ·rw [if_neg c36] at H
             have c36b0 : decide (x11_2 < ((rdOf ByteArray.empty x29_1 x31_1).size : Int)) = false:=decide_eq_false c36
             clear c36
             by_cases c77 : x31_1 = (t182.length : Int)
             ·rw [if_pos c77] at H
              have c77b0 : (x31_1 == (t182.length : Int)) = true:=beq_iff_eq.mpr c77
              have c77b1 : (x31_1 != (t182.length : Int)) = false:=bne_eq_false_iff_eq.mpr c77
              clear c77
              replace H:=Option.bind_eq_some_iff.mp H
              obtain ⟨t215,A780,H⟩:=H
              replace H : (some t215) = some r:=H
              have A78:=Aside0.mk A780
              clear A780
              obtain rfl:=Option.some.inj H
              have hnb79:=NB188_195.out
              have hnc79:=NB195_188.out
              have hnb80:=NB188_199.out
              have hnc80:=NB199_188.out
              have hcz81_0 : wr.cell? ⟨gb188,0,none⟩ = some (.slice Ao12 t182.length co12):=(blk_cell BK188.out 0).trans rfl
              have hcz81_1 : wr.cell? ⟨gb188,1,none⟩ = some (u189001):=(blk_cell BK188.out 1).trans rfl
              have hfz81_0:=blk_frozen BK188.out 0
              have hfz81_1:=blk_frozen BK188.out 1
              have hnb82:=NB199_195.out
              have hnc82:=NB195_199.out
              have hcz83_0 : wr.cell? ⟨gb199,0,none⟩ = some (u200000):=(blk_cell BK199.out 0).trans rfl
              have hcz83_1 : wr.cell? ⟨gb199,1,none⟩ = some (u200001):=(blk_cell BK199.out 1).trans rfl
              have hfz83_0:=blk_frozen BK199.out 0
              have hfz83_1:=blk_frozen BK199.out 1
              obtain ⟨Ao84,co84,eo84⟩:=Kd.R_slice HO_200000.out
              subst eo84
              obtain ⟨Ao85,co85,eo85⟩:=Kd.R_slice HO_200001.out
              subst eo85
              go_wp2_with (first|((with_reducible refine gate_callee (f:=89) rfl ?_);refine goesL_ (some 113) rfl rfl Try.func89 (by kernel_rfl) rfl #[.agg #[.slice Ao84 x200000_1.length co84,.slice Ao85 x200001_2.length co85]] rfl (by (try simp only [List.map_toArray,List.map_cons,List.map_nil]);first|done|rfl|(simp only [List.length_drop,List.length_take];rfl)) ?_;(with_reducible refine (spec_l1Close.calls k2 _ _ x200000_1 _ _ x200001_2 t215 _ ?side1 ?side2 ?side3 ?side4 A78.out).mono ?_);(case side1=>repeat (first|exact (Kd.R_reads' HO_200000.out).2.2|(with_reducible first|apply Kd.C_alloc|apply Kd.C_drewN|apply Kd.C_drew)));(case side2=>exact (Kd.R_reads' HO_200000.out).2.1);(case side3=>repeat (first|exact (Kd.R_reads' HO_200001.out).2.2|(with_reducible first|apply Kd.C_alloc|apply Kd.C_drewN|apply Kd.C_drew)));(case side4=>exact (Kd.R_reads' HO_200001.out).2.1);rintro e w86 ⟨v216,rfl,ho0,hb⟩;refine ⟨_,rfl,?_⟩;have n0_:=Aside0.mk (Kd.R_below (by (with_reducible repeat (first|apply Kd.R_alloc|apply Kd.R_drewN|apply Kd.R_drew));exact HO_29.out) hb);have n1_:=Aside0.mk (Kd.R_below (by (with_reducible repeat (first|apply Kd.R_alloc|apply Kd.R_drewN|apply Kd.R_drew));exact HO_189000.out) hb);have n2_:=Aside0.mk (Kd.R_below (by (with_reducible repeat (first|apply Kd.R_alloc|apply Kd.R_drewN|apply Kd.R_drew));exact HO_189001.out) hb);have n3_:=Aside0.mk (Kd.R_below (by (with_reducible repeat (first|apply Kd.R_alloc|apply Kd.R_drewN|apply Kd.R_drew));exact HO_196000.out) hb);have n4_:=Aside0.mk (Kd.R_below (by (with_reducible repeat (first|apply Kd.R_alloc|apply Kd.R_drewN|apply Kd.R_drew));exact HO_196001.out) hb);have n5_:=Aside0.mk (Kd.R_below (by (with_reducible repeat (first|apply Kd.R_alloc|apply Kd.R_drewN|apply Kd.R_drew));exact HO_200000.out) hb);have n6_:=Aside0.mk (Kd.R_below (by (with_reducible repeat (first|apply Kd.R_alloc|apply Kd.R_drewN|apply Kd.R_drew));exact HO_200001.out) hb);have n7_:=Aside0.mk (Kd.R_lower ho0 (below_size (by repeat (first|(with_reducible first|exact HB.out|apply below_alloc|apply pw_below_drewN|apply below_drew1|refine below_set ?_ GE188.out|refine below_set ?_ GE195.out|refine below_set ?_ GE199.out)|exact HB.out))));have n8_:=Aside0.mk (blk_below (g:=gb188) (o:=.cells #[.slice Ao12 t182.length co12,u189001] 110 (0,0)) (by (with_reducible repeat first|apply blk_drewN|apply blk_drew|apply blk_alloc);exact BK188.out) hb);have n9_:=Aside0.mk (blk_below (g:=gb195) (o:=.cells #[.slice Ao17 t189.length co17,u196001] 110 (0,0)) (by (with_reducible repeat first|apply blk_drewN|apply blk_drew|apply blk_alloc);exact BK195.out) hb);have n10_:=Aside0.mk (blk_below (g:=gb199) (o:=.cells #[.slice Ao84 x200000_1.length co84,.slice Ao85 x200001_2.length co85] 110 (0,0)) (by (with_reducible repeat first|apply blk_drewN|apply blk_drew|apply blk_alloc);exact BK199.out) hb);have n11_:=Aside0.mk (below_step (by repeat (first|(with_reducible first|exact HB.out|apply below_alloc|apply pw_below_drewN|apply below_drew1|refine below_set ?_ GE188.out|refine below_set ?_ GE195.out|refine below_set ?_ GE199.out)|exact HB.out)) hb);clear HO_29;clear HO_189000;clear HO_189001;clear HO_196000;clear HO_196001;clear HO_200000;clear HO_200001;clear BK188;clear BK195;clear BK199;clear HB;have HO_29:=n0_;have HO_189000:=n1_;have HO_189001:=n2_;have HO_196000:=n3_;have HO_196001:=n4_;have HO_200000:=n5_;have HO_200001:=n6_;have HO217:=n7_;have BK188:=n8_;have BK195:=n9_;have BK199:=n10_;have HB:=n11_;clear n0_ n1_ n2_ n3_ n4_ n5_ n6_ n7_ n8_ n9_ n10_ n11_;(try clear hb);(try clear hb2);(try clear hk);(try clear hi);(try clear ho0)))
              go_ret
              exact ⟨_,by first|rfl|(simp [*,errW_none,errW_some] <;> rfl),by (with_reducible repeat (first|apply Kd.R_alloc|apply Kd.R_drewN|apply Kd.R_drew));exact HO217.out,by repeat (first|(with_reducible first|exact HB.out|apply below_alloc|apply pw_below_drewN|apply below_drew1|refine below_set ?_ GE188.out|refine below_set ?_ GE195.out|refine below_set ?_ GE199.out)|exact HB.out)⟩
             ·rw [if_neg c77] at H
              have c77b0 : (x31_1 == (t182.length : Int)) = false:=beq_eq_false_iff_ne.mpr c77
              have c77b1 : (x31_1 != (t182.length : Int)) = true:=bne_iff_ne.mpr c77
              by_cases c87 : 0 ≤ x31_1
              ·rw [if_pos c87] at H
               have c87b0 : decide (0 ≤ x31_1) = true:=decide_eq_true c87
               clear c87
               by_cases c88 : x31_1 < (t182.length : Int)
               ·rw [if_pos c88] at H
                have c88b0 : decide (x31_1 < (t182.length : Int)) = true:=decide_eq_true c88
                (try (have c88h0:=c88b0;rw [hl29_1] at c88h0))
                (try (have c88h0:=c88b0;rw [hl29_2] at c88h0))
                clear c88
                obtain ⟨bq89,hbq89⟩ : ∃ b_ : Bool,b_ = (rdOf false t182 x31_1):=⟨_,rfl⟩
                replace H : (if bq89 = true then (if 0 ≤ x8_2 then (if x8_2 < (t189.length : Int) then (if x200000_1.length < 140737488355328 then (if 0 ≤ (wrap64 (x8_2 + 1)) then (if (wrap64 (x8_2 + 1)) < (x196001_2.length : Int) then (if 0 ≤ (wrap64 (x31_1 + 1)) then (if (wrap64 (x31_1 + 1)) < (x200001_2.length : Int) then (spec_l1Compose.l0 k2 (wrap64 (x8_2 + 1)) x29_2 (t185.length : Int) (wrap64 (x31_1 + 1)) t182 x189001_2 t189 x196001_2 (x200000_1 ++ [rdOf false t189 x8_2]) (x200001_2.set ((wrap64 (x31_1 + 1)) : Int).toNat (rdOf ByteArray.empty x196001_2 (wrap64 (x8_2 + 1))))) else (none)) else (none)) else (none)) else (none)) else (none)) else (none)) else (none)) else (if x200000_1.length < 140737488355328 then (spec_l1Compose.l0 k2 x8_2 x29_2 (t185.length : Int) (wrap64 (x31_1 + 1)) t182 x189001_2 t189 x196001_2 (x200000_1 ++ [false]) x200001_2) else (none))) = some r:=by rw [← hbq89] at H;exact H
                have Nbq89:=Aside0.mk hbq89
                clear hbq89
                by_cases c90 : bq89 = true
                ·subst c90
                 have H1 : (if 0 ≤ x8_2 then (if x8_2 < (t189.length : Int) then (if x200000_1.length < 140737488355328 then (if 0 ≤ (wrap64 (x8_2 + 1)) then (if (wrap64 (x8_2 + 1)) < (x196001_2.length : Int) then (if 0 ≤ (wrap64 (x31_1 + 1)) then (if (wrap64 (x31_1 + 1)) < (x200001_2.length : Int) then (spec_l1Compose.l0 k2 (wrap64 (x8_2 + 1)) x29_2 (t185.length : Int) (wrap64 (x31_1 + 1)) t182 x189001_2 t189 x196001_2 (x200000_1 ++ [rdOf false t189 x8_2]) (x200001_2.set ((wrap64 (x31_1 + 1)) : Int).toNat (rdOf ByteArray.empty x196001_2 (wrap64 (x8_2 + 1))))) else (none)) else (none)) else (none)) else (none)) else (none)) else (none)) else (none)) = some r:=by rw [if_pos rfl] at H;exact H
                 clear H
                 have H:=H1
                 clear H1
                 by_cases c91 : 0 ≤ x8_2
                 ·rw [if_pos c91] at H
                  have c91b0 : decide (0 ≤ x8_2) = true:=decide_eq_true c91
                  clear c91
                  by_cases c92 : x8_2 < (t189.length : Int)
                  ·rw [if_pos c92] at H
                   have c92b0 : decide (x8_2 < (t189.length : Int)) = true:=decide_eq_true c92
                   (try (have c92h0:=c92b0;rw [hl29_1] at c92h0))
                   (try (have c92h0:=c92b0;rw [hl29_2] at c92h0))
                   clear c92
                   by_cases c93 : x200000_1.length < 140737488355328
                   ·rw [if_pos c93] at H
                    have LMc93:=Aside0.mk c93
                    clear c93
                    obtain ⟨y220,hy220⟩ : ∃ y_ : List Bool,y_ = (x200000_1 ++ [rdOf false t189 x8_2]):=⟨_,rfl⟩
                    replace H : (if 0 ≤ (wrap64 (x8_2 + 1)) then (if (wrap64 (x8_2 + 1)) < (x196001_2.length : Int) then (if 0 ≤ (wrap64 (x31_1 + 1)) then (if (wrap64 (x31_1 + 1)) < (x200001_2.length : Int) then (spec_l1Compose.l0 k2 (wrap64 (x8_2 + 1)) x29_2 (t185.length : Int) (wrap64 (x31_1 + 1)) t182 x189001_2 t189 x196001_2 y220 (x200001_2.set ((wrap64 (x31_1 + 1)) : Int).toNat (rdOf ByteArray.empty x196001_2 (wrap64 (x8_2 + 1))))) else (none)) else (none)) else (none)) else (none)) = some r:=by first|(rw [hy220];with_reducible exact H)|(have H2_:=(Option.bind_some _ _).symm.trans H;rw [hy220];with_reducible exact H2_)|(have H2_:=(Option.bind_some _ _).symm.trans H;with_reducible exact H2_)|with_reducible exact H|(rw [hy220];exact H)|exact H
                    have Ny220:=Aside0.mk hy220
                    clear hy220
                    obtain ⟨ji94,hji94⟩ : ∃ j_ : Int,(wrap64 (x8_2 + 1)) = j_:=⟨_,rfl⟩
                    replace H : (if 0 ≤ (ji94) then (if (ji94) < (x196001_2.length : Int) then (if 0 ≤ (wrap64 (x31_1 + 1)) then (if (wrap64 (x31_1 + 1)) < (x200001_2.length : Int) then (spec_l1Compose.l0 k2 ji94 x29_2 (t185.length : Int) (wrap64 (x31_1 + 1)) t182 x189001_2 t189 x196001_2 y220 (x200001_2.set ((wrap64 (x31_1 + 1)) : Int).toNat (rdOf ByteArray.empty x196001_2 (ji94)))) else (none)) else (none)) else (none)) else (none)) = some r:=by first|(rw [hji94] at H;exact H)|(simp only [hji94] at H ⊢;exact H)
                    have hji94w : (IntKind.i64.wrap (x8_2 + 1)) = ji94:=(i64_w _).trans hji94
                    by_cases c95 : 0 ≤ (ji94)
                    ·rw [if_pos c95] at H
                     have c95b0 : decide (0 ≤ (ji94)) = true:=decide_eq_true c95
                     clear c95
                     by_cases c96 : (ji94) < (x196001_2.length : Int)
                     ·rw [if_pos c96] at H
                      have c96b0 : decide ((ji94) < (x196001_2.length : Int)) = true:=decide_eq_true c96
                      (try (have c96h0:=c96b0;rw [hl29_1] at c96h0))
                      (try (have c96h0:=c96b0;rw [hl29_2] at c96h0))
                      clear c96
                      obtain ⟨ji97,hji97⟩ : ∃ j_ : Int,(wrap64 (x31_1 + 1)) = j_:=⟨_,rfl⟩
                      replace H : (if 0 ≤ (ji97) then (if (ji97) < (x200001_2.length : Int) then (spec_l1Compose.l0 k2 ji94 x29_2 (t185.length : Int) ji97 t182 x189001_2 t189 x196001_2 y220 (x200001_2.set ((ji97) : Int).toNat (rdOf ByteArray.empty x196001_2 (ji94)))) else (none)) else (none)) = some r:=by first|(rw [hji97] at H;exact H)|(simp only [hji97] at H ⊢;exact H)
                      have hji97w : (IntKind.i64.wrap (x31_1 + 1)) = ji97:=(i64_w _).trans hji97
                      by_cases c98 : 0 ≤ (ji97)
                      ·rw [if_pos c98] at H
                       have c98b0 : decide (0 ≤ (ji97)) = true:=decide_eq_true c98
                       clear c98
                       by_cases c99 : (ji97) < (x200001_2.length : Int)
                       ·rw [if_pos c99] at H
                        have c99b0 : decide ((ji97) < (x200001_2.length : Int)) = true:=decide_eq_true c99
                        (try (have c99h0:=c99b0;rw [hl29_1] at c99h0))
                        (try (have c99h0:=c99b0;rw [hl29_2] at c99h0))
                        clear c99
                        obtain ⟨y224,hy224⟩ : ∃ y_ : List ByteArray,y_ = (x200001_2.set ((ji97) : Int).toNat (rdOf ByteArray.empty x196001_2 (ji94))):=⟨_,rfl⟩
                        replace H : (spec_l1Compose.l0 k2 ji94 x29_2 (t185.length : Int) ji97 t182 x189001_2 t189 x196001_2 y220 y224) = some r:=by first|(rw [hy224];with_reducible exact H)|(have H2_:=(Option.bind_some _ _).symm.trans H;rw [hy224];with_reducible exact H2_)|(have H2_:=(Option.bind_some _ _).symm.trans H;with_reducible exact H2_)|with_reducible exact H|(rw [hy224];exact H)|exact H
                        have Ny224:=Aside0.mk hy224
                        clear hy224
                        have H':=Aside0.mk H
                        clear H
                        have hnb101:=NB188_195.out
                        have hnc101:=NB195_188.out
                        have hnb102:=NB188_199.out
                        have hnc102:=NB199_188.out
                        have hcz103_0 : wr.cell? ⟨gb188,0,none⟩ = some (.slice Ao12 t182.length co12):=(blk_cell BK188.out 0).trans rfl
                        have hcz103_1 : wr.cell? ⟨gb188,1,none⟩ = some (u189001):=(blk_cell BK188.out 1).trans rfl
                        have hfz103_0:=blk_frozen BK188.out 0
                        have hfz103_1:=blk_frozen BK188.out 1
                        have p218 : 0 ≤ (x31_1 : Int):=of_decide_eq_true (by assumption)
                        have q218 : x31_1 < (t182.length : Int):=of_decide_eq_true (by assumption)
                        obtain ⟨ad218,e218,hx218_0⟩:=Kd.at_bool (Kd.R_reads' HO_189000.out).2.2 x31_1 p218 q218
                        (try rw [← Nbq89.out] at hx218_0)
                        cases e218
                        replace p218:=eq_true p218
                        replace q218:=eq_true q218
                        try go_wp2
                        have n0_:=Aside0.mk (Kd.R_drew HO_29.out)
                        have n1_:=Aside0.mk (Kd.R_drew HO_189000.out)
                        have n2_:=Aside0.mk (Kd.R_drew HO_189001.out)
                        have n3_:=Aside0.mk (Kd.R_drew HO_196000.out)
                        have n4_:=Aside0.mk (Kd.R_drew HO_196001.out)
                        have n5_:=Aside0.mk (Kd.R_drew HO_200000.out)
                        have n6_:=Aside0.mk (Kd.R_drew HO_200001.out)
                        have n7_:=Aside0.mk (blk_drew BK188.out)
                        have n8_:=Aside0.mk (blk_drew BK195.out)
                        have n9_:=Aside0.mk (blk_drew BK199.out)
                        have n10_:=Aside0.mk (below_drew1 HB.out)
                        clear HO_29
                        clear HO_189000
                        clear HO_189001
                        clear HO_196000
                        clear HO_196001
                        clear HO_200000
                        clear HO_200001
                        clear BK188
                        clear BK195
                        clear BK199
                        clear HB
                        have HO_29:=n0_
                        have HO_189000:=n1_
                        have HO_189001:=n2_
                        have HO_196000:=n3_
                        have HO_196001:=n4_
                        have HO_200000:=n5_
                        have HO_200001:=n6_
                        have BK188:=n7_
                        have BK195:=n8_
                        have BK199:=n9_
                        have HB:=n10_
                        clear n0_ n1_ n2_ n3_ n4_ n5_ n6_ n7_ n8_ n9_ n10_
                        have p219 : 0 ≤ (x8_2 : Int):=of_decide_eq_true (by assumption)
                        have q219 : x8_2 < (t189.length : Int):=of_decide_eq_true (by assumption)
                        obtain ⟨ad219,e219,hx219_0⟩:=Kd.at_bool (Kd.R_reads' HO_196000.out).2.2 x8_2 p219 q219
                        (try rw [← Nbq89.out] at hx219_0)
                        cases e219
                        replace p219:=eq_true p219
                        replace q219:=eq_true q219
                        refine start_ (n:=11) (S:=fun w'=>w'.cell? ⟨gb199,0,none⟩ = some (u200000)∧w'.cell? ⟨gb199,1,none⟩ = some (u200001)∧w'.cell? ⟨gb195,0,none⟩ = some (.slice (some ad219) t189.length co17)∧w'.cell? ⟨gb195,1,none⟩ = some (u196001)∧w'.cell? (ad219.add (x8_2).toNat) = some (.bool (rdOf false t189 x8_2))) (ds:=[8,10]) #[false,false,false,false,false,false,false,false,false,false,false] (by kernel_rfl) rfl rfl ⟨(blk_cell BK199.out 0).trans rfl,(blk_cell BK199.out 1).trans rfl,(blk_cell BK195.out 0).trans rfl,(blk_cell BK195.out 1).trans rfl,hx219_0⟩ (fun hHeld=>?_);refine with_tabW spec_l1Compose.tab19 spec_l1Compose.bits19 (fun HT_ HW_=>?_)
                        generalize wr.drew = w104 at HO_29 HO_189000 HO_189001 HO_196000 HO_196001 HO_200000 HO_200001 BK188 BK195 BK199 HB hx219_0 hHeld ⊢
                        refine pure_ (i:=0) (N:=some 89) (v:=?_) (a':=?_) #[true,false,false,false,false,false,false,false,false,false,false] rfl rfl (any_of HT_.out (by kernel_rfl)) (fun _ _ _ h=>h) (Or.inl ⟨by rfl,?_⟩) ?_ ?_
                        rotate_left
                        ·intro w'
                         go_simp
                         with_reducible rfl
                        rotate_left
                        ·simp only [Act.put,List.setIfInBounds_toArray,List.set_cons_zero,List.set_cons_succ,i64_w,i32_w]
                         rfl
                        refine pure_ (i:=2) (N:=some 91) (v:=?_) (a':=?_) #[true,false,true,false,false,false,false,false,false,false,false] rfl rfl (any_of HT_.out (by kernel_rfl)) (fun _ _ _ h=>h) (Or.inl ⟨by rfl,?_⟩) ?_ ?_
                        rotate_left
                        ·intro w'
                         go_simp
                         with_reducible rfl
                        rotate_left
                        ·simp only [Act.put,List.setIfInBounds_toArray,List.set_cons_zero,List.set_cons_succ,i64_w,i32_w]
                         rfl
                        refine pure_ (i:=4) (N:=some 93) (v:=?_) (a':=?_) #[true,false,true,false,true,false,false,false,false,false,false] rfl rfl (any_of HT_.out (by kernel_rfl)) (fun _ _ _ h=>h) (Or.inl ⟨by rfl,?_⟩) ?_ ?_
                        rotate_left
                        ·intro w'
                         go_simp
                         with_reducible rfl
                        rotate_left
                        ·simp only [Act.put,List.setIfInBounds_toArray,List.set_cons_zero,List.set_cons_succ,i64_w,i32_w]
                         rfl
                        refine take_ (i:=1) (N:=some 90) (v:=?_) (a':=?_) #[true,true,true,false,true,false,false,false,false,false,false] rfl rfl (take_ofW HT_.out HW_.out (by kernel_rfl)) (fun _ _ _ h=>h) (Or.inl ⟨by rfl,?_⟩) hHeld ?_ ?_
                        rotate_left
                        ·rintro w' ⟨s0,s1,s2,s3,s4⟩
                         go_simp
                         with_reducible rfl
                        rotate_left
                        ·simp only [Act.put,List.setIfInBounds_toArray,List.set_cons_zero,List.set_cons_succ,i64_w,i32_w]
                         rfl
                        refine take_ (i:=3) (N:=some 92) (v:=?_) (a':=?_) #[true,true,true,true,true,false,false,false,false,false,false] rfl rfl (take_ofW HT_.out HW_.out (by kernel_rfl)) (fun _ _ _ h=>h) (Or.inl ⟨by rfl,?_⟩) hHeld ?_ ?_
                        rotate_left
                        ·rintro w' ⟨s0,s1,s2,s3,s4⟩
                         go_simp
                         with_reducible rfl
                        rotate_left
                        ·simp only [Act.put,List.setIfInBounds_toArray,List.set_cons_zero,List.set_cons_succ,i64_w,i32_w]
                         rfl
                        refine pure_ (i:=5) (N:=some 94) (v:=?_) (a':=?_) #[true,true,true,true,true,true,false,false,false,false,false] rfl rfl (any_of HT_.out (by kernel_rfl)) (fun _ _ _ h=>h) (Or.inl ⟨by rfl,?_⟩) ?_ ?_
                        rotate_left
                        ·intro w'
                         go_simp
                         with_reducible rfl
                        rotate_left
                        ·simp only [Act.put,List.setIfInBounds_toArray,List.set_cons_zero,List.set_cons_succ,i64_w,i32_w]
                         rfl
                        refine take_ (i:=6) (N:=some 95) (v:=?_) (a':=?_) #[true,true,true,true,true,true,true,false,false,false,false] rfl rfl (take_ofW HT_.out HW_.out (by kernel_rfl)) (fun _ _ _ h=>h) (Or.inl ⟨by rfl,?_⟩) hHeld ?_ ?_
                        rotate_left
                        ·rintro w' ⟨s0,s1,s2,s3,s4⟩
                         go_simp
                         with_reducible rfl
                        rotate_left
                        ·simp only [Act.put,List.setIfInBounds_toArray,List.set_cons_zero,List.set_cons_succ,i64_w,i32_w]
                         rfl
                        refine one_ (i:=7) (N:=some 96) #[true,true,true,true,true,true,true,true,false,false,false] rfl rfl (one_of HT_.out (by kernel_rfl)) (by decide) (fun K hK=>?_)
                        refine value_ (w1:=?_) (v:=?_) (by rfl) rfl ?_ ?_
                        rotate_left 2
                        ·go_simp
                         constructor
                         ·rfl
                         ·rfl
                        refine hK.out _ _ ⟨(blk_cell (blk_alloc BK199.out _) 0).trans rfl,(blk_cell (blk_alloc BK199.out _) 1).trans rfl,(blk_cell (blk_alloc BK195.out _) 0).trans rfl,(blk_cell (blk_alloc BK195.out _) 1).trans rfl,(World.cell?_alloc_lt _ _ _ (World.block_lt_of_cell? _ _ (hHeld.2.2.2.2))).trans (hHeld.2.2.2.2)⟩ (fun hHeld=>?_)
                        clear hK K
                        refine norm_ (a':=?_) ?_ ?_
                        rotate_left
                        ·show Act.put _ (some 96) _ = _
                         simp only [Act.put,List.setIfInBounds_toArray,List.set_cons_zero,List.set_cons_succ,i64_w,i32_w]
                         rfl
                        refine last_ (i:=8) (N:=some 97) #[true,true,true,true,true,true,true,true,true,false,false] rfl rfl (one_of HT_.out (by kernel_rfl)) (by decide) (fun K hK=>?_)
                        refine Kd.R_append_step Kd.bool (w0:=w) w.heap.size (by rfl) (.tmp 90) (.tmp 96) 83 4 (.bool false) 1 rfl Try.underlying83 info4 rfl (by decide) (by omega) u200000 x200000_1 (rdOf false t189 x8_2) [.bool (rdOf false t189 x8_2)] (fun k_=>some k_ ≠ (.slice (some ad218) t182.length co12 : Value).ownBlock∧some k_ ≠ (.slice (some ad219) t189.length co17 : Value).ownBlock) (fun _=>False) rfl rfl ?aP (fun _ hk=>hk.elim) ?aF ?aO ?aB ?aS ?aL ?_
                        (case aP=>exact rfl)
                        (case aB=>exact (by repeat (first|(with_reducible first|exact HB.out|apply below_alloc|apply pw_below_drewN|apply below_drew1|refine below_set ?_ GE188.out|refine below_set ?_ GE195.out|refine below_set ?_ GE199.out)|exact HB.out)))
                        (case aF=>exact (fun k_ hk=>⟨Kd.fresh' (Kd.R_lt (by (with_reducible repeat (first|apply Kd.R_alloc|apply Kd.R_drewN|apply Kd.R_drew));exact HO_189000.out)) k_ hk,Kd.fresh' (Kd.R_lt (by (with_reducible repeat (first|apply Kd.R_alloc|apply Kd.R_drewN|apply Kd.R_drew));exact HO_196000.out)) k_ hk⟩))
                        (case aO=>exact (by (with_reducible repeat (first|apply Kd.R_alloc|apply Kd.R_drewN|apply Kd.R_drew));exact HO_200000.out))
                        (case aS=>exact (below_size (by repeat (first|(with_reducible first|exact HB.out|apply below_alloc|apply pw_below_drewN|apply below_drew1|refine below_set ?_ GE188.out|refine below_set ?_ GE195.out|refine below_set ?_ GE199.out)|exact HB.out))))
                        (case aL=>have:=LMc93.out;omega)
                        intro v221 w105 ho hb hg hat
                        rw [← Ny220.out] at ho
                        have n0_:=Aside0.mk (Kd.R_over' (by (with_reducible repeat (first|apply Kd.R_alloc|apply Kd.R_drewN|apply Kd.R_drew));exact HO_29.out) (Kd.R_typed (by (with_reducible repeat (first|apply Kd.R_alloc|apply Kd.R_drewN|apply Kd.R_drew));exact HO_200000.out)) (by decide) hg)
                        have n1_:=Aside0.mk (Kd.R_after (ok:=(fun k_=>some k_ ≠ (.slice (some ad219) t189.length co17 : Value).ownBlock)) (by (with_reducible repeat (first|apply Kd.R_alloc|apply Kd.R_drewN|apply Kd.R_drew));exact HO_189000.out) hg hat)
                        have n2_:=Aside0.mk (Kd.R_over' (by (with_reducible repeat (first|apply Kd.R_alloc|apply Kd.R_drewN|apply Kd.R_drew));exact HO_189001.out) (Kd.R_typed (by (with_reducible repeat (first|apply Kd.R_alloc|apply Kd.R_drewN|apply Kd.R_drew));exact HO_200000.out)) (by decide) hg)
                        have n3_:=Aside0.mk (Kd.R_after (ok:=(fun k_=>some k_ ≠ (.slice (some ad218) t182.length co12 : Value).ownBlock)) (by (with_reducible repeat (first|apply Kd.R_alloc|apply Kd.R_drewN|apply Kd.R_drew));exact HO_196000.out) hg hat)
                        have n4_:=Aside0.mk (Kd.R_over' (by (with_reducible repeat (first|apply Kd.R_alloc|apply Kd.R_drewN|apply Kd.R_drew));exact HO_196001.out) (Kd.R_typed (by (with_reducible repeat (first|apply Kd.R_alloc|apply Kd.R_drewN|apply Kd.R_drew));exact HO_200000.out)) (by decide) hg)
                        have n5_:=Aside0.mk (Kd.R_over' (by (with_reducible repeat (first|apply Kd.R_alloc|apply Kd.R_drewN|apply Kd.R_drew));exact HO_200001.out) (Kd.R_typed (by (with_reducible repeat (first|apply Kd.R_alloc|apply Kd.R_drewN|apply Kd.R_drew));exact HO_200000.out)) (by decide) hg)
                        have n6_:=Aside0.mk (blk_grown (g:=gb188) (o:=.cells #[.slice (some ad218) t182.length co12,u189001] 110 (0,0)) (by (with_reducible repeat first|apply blk_drewN|apply blk_drew|apply blk_alloc);exact BK188.out) hg (Kd.R_ne HO_200000.out BK188.out (by decide)))
                        have n7_:=Aside0.mk (blk_grown (g:=gb195) (o:=.cells #[.slice (some ad219) t189.length co17,u196001] 110 (0,0)) (by (with_reducible repeat first|apply blk_drewN|apply blk_drew|apply blk_alloc);exact BK195.out) hg (Kd.R_ne HO_200000.out BK195.out (by decide)))
                        have n8_:=Aside0.mk (blk_grown (g:=gb199) (o:=.cells #[u200000,u200001] 110 (0,0)) (by (with_reducible repeat first|apply blk_drewN|apply blk_drew|apply blk_alloc);exact BK199.out) hg (Kd.R_ne HO_200000.out BK199.out (by decide)))
                        have n9_:=Aside0.mk (hb)
                        have n10_:=Aside0.mk (ho)
                        clear HO_29
                        clear HO_189000
                        clear HO_189001
                        clear HO_196000
                        clear HO_196001
                        clear HO_200001
                        clear BK188
                        clear BK195
                        clear BK199
                        clear HB
                        clear HO_200000
                        have HO_29:=n0_
                        have HO_189000:=n1_
                        have HO_189001:=n2_
                        have HO_196000:=n3_
                        have HO_196001:=n4_
                        have HO_200001:=n5_
                        have BK188:=n6_
                        have BK195:=n7_
                        have BK199:=n8_
                        have HB:=n9_
                        have HO222:=n10_
                        clear n0_ n1_ n2_ n3_ n4_ n5_ n6_ n7_ n8_ n9_ n10_
                        clear ho hb hg hat
                        obtain ⟨Ao106,co106,eo106⟩:=Kd.R_slice HO222.out
                        (first|subst eo106|(injection eo106 with f1_ f2_ f3_;have f4_:=f1_.symm;have f5_:=f3_.symm;clear f1_ f2_ f3_;subst f4_;subst f5_))
                        refine hK.out _ _ ?_
                        clear hK K
                        refine norm_ (a':=?_) ?_ ?_
                        rotate_left
                        ·show Act.put _ (some 97) _ = _
                         simp only [Act.put,List.setIfInBounds_toArray,List.set_cons_zero,List.set_cons_succ,i64_w,i32_w]
                         rfl
                        refine pure_ (i:=9) (N:=some 98) (v:=?_) (a':=?_) #[true,true,true,true,true,true,true,true,true,true,false] rfl rfl (any_of HT_.out (by kernel_rfl)) (fun _ _ _ h=>h) (Or.inl ⟨by rfl,?_⟩) ?_ ?_
                        rotate_left
                        ·intro w'
                         go_simp
                         with_reducible rfl
                        rotate_left
                        ·simp only [Act.put,List.setIfInBounds_toArray,List.set_cons_zero,List.set_cons_succ,i64_w,i32_w]
                         rfl
                        refine last_ (i:=10) (N:=none) #[true,true,true,true,true,true,true,true,true,true,true] rfl rfl (one_of HT_.out (by kernel_rfl)) (by decide) (fun K hK=>?_)
                        have hs107 : w105.cell? ⟨gb199,0,none⟩ = some (u200000):=(blk_cell BK199.out 0).trans rfl
                        have hfs107:=blk_frozen BK199.out 0
                        have hns107_0:=NB188_199.out
                        have hns107_1:=NB195_199.out
                        have hms107_0:=NB199_188.out
                        have hms107_1:=NB199_195.out
                        refine skip_ (w1:=?_) (by rfl) rfl ?_ ?_
                        rotate_left
                        ·go_simp
                         rfl
                        refine hK.out _ _ ?_
                        clear hK K
                        refine done_ (done_of HT_.out (by kernel_rfl)) ?_
                        try go_wp2
                        have n0_ : Aside0 (Kd.R Kd.string 9 (w105.setCell ⟨gb199,0,none⟩ (.slice Ao106 y220.length co106)) w.heap.size (fun k_=>some k_ ≠ (u196001 : Value).ownBlock∧some k_ ≠ (u200001 : Value).ownBlock) (.slice (some ad205) x29_2.length co14) x29_2):=⟨by (with_reducible repeat (first|apply Kd.R_alloc|apply Kd.R_drewN|apply Kd.R_drew));exact Kd.R_mono (Kd.R_far (p:=⟨gb199,0,none⟩) (Kd.R_types HO_29.out BK199.out (by decide)) (fun _ hk=>hk.2) (.slice Ao106 y220.length co106)) (fun _ hk=>⟨hk.1.1,hk.1.2⟩)⟩
                        have n1_ : Aside0 (Kd.R Kd.bool 4 (w105.setCell ⟨gb199,0,none⟩ (.slice Ao106 y220.length co106)) w.heap.size (fun k_=>some k_ ≠ (.slice (some ad219) t189.length co17 : Value).ownBlock∧some k_ ≠ (.slice Ao106 y220.length co106 : Value).ownBlock) (.slice (some ad218) t182.length co12) t182):=⟨by (with_reducible repeat (first|apply Kd.R_alloc|apply Kd.R_drewN|apply Kd.R_drew));exact Kd.R_mono (Kd.R_far (p:=⟨gb199,0,none⟩) (Kd.R_types HO_189000.out BK199.out (by decide)) (fun _ hk=>hk.2) (.slice Ao106 y220.length co106)) (fun _ hk=>⟨hk.1.1,hk.1.2⟩)⟩
                        have n2_ : Aside0 (Kd.R Kd.string 9 (w105.setCell ⟨gb199,0,none⟩ (.slice Ao106 y220.length co106)) w.heap.size (fun k_=>some k_ ≠ (u196001 : Value).ownBlock∧some k_ ≠ (u200001 : Value).ownBlock) u189001 x189001_2):=⟨by (with_reducible repeat (first|apply Kd.R_alloc|apply Kd.R_drewN|apply Kd.R_drew));exact Kd.R_mono (Kd.R_far (p:=⟨gb199,0,none⟩) (Kd.R_types HO_189001.out BK199.out (by decide)) (fun _ hk=>hk.2) (.slice Ao106 y220.length co106)) (fun _ hk=>⟨hk.1.1,hk.1.2⟩)⟩
                        have n3_ : Aside0 (Kd.R Kd.bool 4 (w105.setCell ⟨gb199,0,none⟩ (.slice Ao106 y220.length co106)) w.heap.size (fun k_=>some k_ ≠ (.slice (some ad218) t182.length co12 : Value).ownBlock∧some k_ ≠ (.slice Ao106 y220.length co106 : Value).ownBlock) (.slice (some ad219) t189.length co17) t189):=⟨by (with_reducible repeat (first|apply Kd.R_alloc|apply Kd.R_drewN|apply Kd.R_drew));exact Kd.R_mono (Kd.R_far (p:=⟨gb199,0,none⟩) (Kd.R_types HO_196000.out BK199.out (by decide)) (fun _ hk=>hk.2) (.slice Ao106 y220.length co106)) (fun _ hk=>⟨hk.1.1,hk.1.2⟩)⟩
                        have n4_ : Aside0 (Kd.R Kd.string 9 (w105.setCell ⟨gb199,0,none⟩ (.slice Ao106 y220.length co106)) w.heap.size (fun k_=>some k_ ≠ (.slice (some ad205) x29_2.length co14 : Value).ownBlock∧some k_ ≠ (u189001 : Value).ownBlock∧some k_ ≠ (u200001 : Value).ownBlock) u196001 x196001_2):=⟨by (with_reducible repeat (first|apply Kd.R_alloc|apply Kd.R_drewN|apply Kd.R_drew));exact Kd.R_mono (Kd.R_far (p:=⟨gb199,0,none⟩) (Kd.R_types HO_196001.out BK199.out (by decide)) (fun _ hk=>hk.2) (.slice Ao106 y220.length co106)) (fun _ hk=>⟨hk.1.1,⟨hk.1.2.1,hk.1.2.2⟩⟩)⟩
                        have n5_ : Aside0 (Kd.R Kd.string 9 (w105.setCell ⟨gb199,0,none⟩ (.slice Ao106 y220.length co106)) w.heap.size (fun k_=>some k_ ≠ (.slice (some ad205) x29_2.length co14 : Value).ownBlock∧some k_ ≠ (u189001 : Value).ownBlock∧some k_ ≠ (u196001 : Value).ownBlock) u200001 x200001_2):=⟨by (with_reducible repeat (first|apply Kd.R_alloc|apply Kd.R_drewN|apply Kd.R_drew));exact Kd.R_mono (Kd.R_far (p:=⟨gb199,0,none⟩) (Kd.R_types HO_200001.out BK199.out (by decide)) (fun _ hk=>hk.2) (.slice Ao106 y220.length co106)) (fun _ hk=>⟨hk.1.1,⟨hk.1.2.1,hk.1.2.2⟩⟩)⟩
                        have n6_ : Aside0 (Kd.R Kd.bool 4 (w105.setCell ⟨gb199,0,none⟩ (.slice Ao106 y220.length co106)) w.heap.size (fun k_=>some k_ ≠ (.slice (some ad218) t182.length co12 : Value).ownBlock∧some k_ ≠ (.slice (some ad219) t189.length co17 : Value).ownBlock) (.slice Ao106 y220.length co106) y220):=⟨by (with_reducible repeat (first|apply Kd.R_alloc|apply Kd.R_drewN|apply Kd.R_drew));exact Kd.R_mono (Kd.R_far (p:=⟨gb199,0,none⟩) (Kd.R_types HO222.out BK199.out (by decide)) (fun _ hk=>hk.2) (.slice Ao106 y220.length co106)) (fun _ hk=>⟨hk.1.1,hk.1.2⟩)⟩
                        have n7_ : Aside0 ((w105.setCell ⟨gb199,0,none⟩ (.slice Ao106 y220.length co106)).heap[gb188]? = some (.cells #[.slice (some ad218) t182.length co12,u189001] 110 (0,0))):=⟨by (with_reducible repeat first|apply blk_drewN|apply blk_drew|apply blk_alloc);refine blk_far ?_ NB188_199.out _;(with_reducible repeat first|apply blk_drewN|apply blk_drew|apply blk_alloc);exact BK188.out⟩
                        have n8_ : Aside0 ((w105.setCell ⟨gb199,0,none⟩ (.slice Ao106 y220.length co106)).heap[gb195]? = some (.cells #[.slice (some ad219) t189.length co17,u196001] 110 (0,0))):=⟨by (with_reducible repeat first|apply blk_drewN|apply blk_drew|apply blk_alloc);refine blk_far ?_ NB195_199.out _;(with_reducible repeat first|apply blk_drewN|apply blk_drew|apply blk_alloc);exact BK195.out⟩
                        have n9_ : Aside0 ((w105.setCell ⟨gb199,0,none⟩ (.slice Ao106 y220.length co106)).heap[gb199]? = some (.cells #[.slice Ao106 y220.length co106,u200001] 110 (0,0))):=⟨by (with_reducible repeat first|apply blk_drewN|apply blk_drew|apply blk_alloc);refine blk_put (cs:=#[u200000,u200001]) ?_ 0 _ rfl;(with_reducible repeat first|apply blk_drewN|apply blk_drew|apply blk_alloc);exact BK199.out⟩
                        have n10_ : Aside0 (Below w.heap.size w (w105.setCell ⟨gb199,0,none⟩ (.slice Ao106 y220.length co106))):=⟨by repeat (first|(with_reducible first|exact HB.out|apply below_alloc|apply pw_below_drewN|apply below_drew1|refine below_set ?_ GE188.out|refine below_set ?_ GE195.out|refine below_set ?_ GE199.out)|exact HB.out)⟩
                        (try clear HO_29)
                        (try clear HO_189000)
                        (try clear HO_189001)
                        (try clear HO_196000)
                        (try clear HO_196001)
                        (try clear HO_200001)
                        (try clear HO222)
                        (try clear BK188)
                        (try clear BK195)
                        (try clear BK199)
                        (try clear HB)
                        generalize (w105.setCell ⟨gb199,0,none⟩ (.slice Ao106 y220.length co106)) = w108 at n0_ n1_ n2_ n3_ n4_ n5_ n6_ n7_ n8_ n9_ n10_ ⊢
                        have HO_29:=n0_
                        have HO_189000:=n1_
                        have HO_189001:=n2_
                        have HO_196000:=n3_
                        have HO_196001:=n4_
                        have HO_200001:=n5_
                        have HO222:=n6_
                        have BK188:=n7_
                        have BK195:=n8_
                        have BK199:=n9_
                        have HB:=n10_
                        clear n0_ n1_ n2_ n3_ n4_ n5_ n6_ n7_ n8_ n9_ n10_
                        have n0_:=Aside0.mk (Kd.R_drew HO_29.out)
                        have n1_:=Aside0.mk (Kd.R_drew HO_189000.out)
                        have n2_:=Aside0.mk (Kd.R_drew HO_189001.out)
                        have n3_:=Aside0.mk (Kd.R_drew HO_196000.out)
                        have n4_:=Aside0.mk (Kd.R_drew HO_196001.out)
                        have n5_:=Aside0.mk (Kd.R_drew HO_200001.out)
                        have n6_:=Aside0.mk (Kd.R_drew HO222.out)
                        have n7_:=Aside0.mk (blk_drew BK188.out)
                        have n8_:=Aside0.mk (blk_drew BK195.out)
                        have n9_:=Aside0.mk (blk_drew BK199.out)
                        have n10_:=Aside0.mk (below_drew1 HB.out)
                        clear HO_29
                        clear HO_189000
                        clear HO_189001
                        clear HO_196000
                        clear HO_196001
                        clear HO_200001
                        clear HO222
                        clear BK188
                        clear BK195
                        clear BK199
                        clear HB
                        have HO_29:=n0_
                        have HO_189000:=n1_
                        have HO_189001:=n2_
                        have HO_196000:=n3_
                        have HO_196001:=n4_
                        have HO_200001:=n5_
                        have HO222:=n6_
                        have BK188:=n7_
                        have BK195:=n8_
                        have BK199:=n9_
                        have HB:=n10_
                        clear n0_ n1_ n2_ n3_ n4_ n5_ n6_ n7_ n8_ n9_ n10_
                        obtain ⟨Ao110,co110,eo110⟩:=Kd.R_slice HO_196001.out
                        (first|subst eo110|(injection eo110 with f1_ f2_ f3_;have f4_:=f1_.symm;have f5_:=f3_.symm;clear f1_ f2_ f3_;subst f4_;subst f5_))
                        have p223 : 0 ≤ ((ji94) : Int):=of_decide_eq_true (by assumption)
                        have q223 : (ji94) < (x196001_2.length : Int):=of_decide_eq_true (by assumption)
                        obtain ⟨ad223,e223,hx223_0⟩:=Kd.at_string (Kd.R_reads' HO_196001.out).2.2 (ji94) p223 q223
                        cases e223
                        replace p223:=eq_true p223
                        replace q223:=eq_true q223
                        have p100 : 0 ≤ ((ji97) : Int):=of_decide_eq_true (by assumption)
                        have q100 : ((ji97) : Int) < ((x200001_2.length : Int) : Int):=of_decide_eq_true (by assumption)
                        obtain ⟨go100,co100,eo100,gb100,gl100,cl100,HG100⟩:=Kd.R_form HO_200001.out (by omega)
                        (first|cases eo100|(injection eo100 with ea_ en_ ec_;(first|subst ea_|(injection ea_ with ea_;subst ea_));subst ec_;clear en_))
                        have GB100:=Aside0.mk gb100
                        have GG100:=Aside0.mk HG100
                        clear gb100 gl100 HG100
                        obtain ⟨hx100_0,hf100_0⟩:=Kd.R_celln (⟨#[]⟩ : ByteArray) HO_200001.out ((ji97) : Int) p100 q100
                        replace p100:=eq_true p100
                        replace q100:=eq_true q100
                        have HP111:=Kd.R_putn HO_200001.out ((ji97) : Int) (rdOf ByteArray.empty x196001_2 (ji94))
                        rw [← Ny224.out] at HP111
                        have HQ111:=Aside0.mk HP111
                        clear HP111
                        refine start_ (n:=11) (S:=fun w'=>w'.cell? ⟨gb199,0,none⟩ = some (.slice Ao106 y220.length co106)∧w'.cell? ⟨gb199,1,none⟩ = some (.slice (some ⟨go100,0,none⟩) x200001_2.length co100)∧w'.cell? ⟨gb195,0,none⟩ = some (.slice (some ad219) t189.length co17)∧w'.cell? ⟨gb195,1,none⟩ = some (.slice (some ad223) x196001_2.length co110)∧w'.cell? (ad223.add ((ji94)).toNat) = some (.string (rdOf ByteArray.empty x196001_2 (ji94)))) (ds:=[10]) #[false,false,false,false,false,false,false,false,false,false,false] (by kernel_rfl) rfl rfl ⟨(blk_cell BK199.out 0).trans rfl,(blk_cell BK199.out 1).trans rfl,(blk_cell BK195.out 0).trans rfl,(blk_cell BK195.out 1).trans rfl,hx223_0⟩ (fun hHeld=>?_);refine with_tabW spec_l1Compose.tab21 spec_l1Compose.bits21 (fun HT_ HW_=>?_)
                        generalize w108.drew = w109 at HO_29 HO_189000 HO_189001 HO_196000 HO_196001 HO_200001 HO222 BK188 BK195 BK199 HB GG100 HQ111 hf100_0 hx100_0 hx223_0 hHeld ⊢
                        refine pure_ (i:=0) (N:=some 101) (v:=?_) (a':=?_) #[true,false,false,false,false,false,false,false,false,false,false] rfl rfl (any_of HT_.out (by kernel_rfl)) (fun _ _ _ h=>h) (Or.inl ⟨by rfl,?_⟩) ?_ ?_
                        rotate_left
                        ·intro w'
                         go_simp
                         with_reducible rfl
                        rotate_left
                        ·simp only [Act.put,List.setIfInBounds_toArray,List.set_cons_zero,List.set_cons_succ,i64_w,i32_w]
                         rfl
                        refine pure_ (i:=2) (N:=some 103) (v:=?_) (a':=?_) #[true,false,true,false,false,false,false,false,false,false,false] rfl rfl (any_of HT_.out (by kernel_rfl)) (fun _ _ _ h=>h) (Or.inl ⟨by rfl,?_⟩) ?_ ?_
                        rotate_left
                        ·intro w'
                         go_simp
                         with_reducible rfl
                        rotate_left
                        ·simp only [Act.put,List.setIfInBounds_toArray,List.set_cons_zero,List.set_cons_succ,i64_w,i32_w]
                         rfl
                        refine pure_ (i:=3) (N:=some 104) (v:=?_) (a':=?_) #[true,false,true,true,false,false,false,false,false,false,false] rfl rfl (any_of HT_.out (by kernel_rfl)) (fun _ _ _ h=>h) (Or.inl ⟨by rfl,?_⟩) ?_ ?_
                        rotate_left
                        ·intro w'
                         go_simp
                         with_reducible rfl
                        rotate_left
                        ·simp only [Act.put,List.setIfInBounds_toArray,List.set_cons_zero,List.set_cons_succ,i64_w,i32_w]
                         rfl
                        refine pure_ (i:=4) (N:=some 105) (v:=?_) (a':=?_) #[true,false,true,true,true,false,false,false,false,false,false] rfl rfl (any_of HT_.out (by kernel_rfl)) (fun _ _ _ h=>h) (Or.inl ⟨by rfl,?_⟩) ?_ ?_
                        rotate_left
                        ·intro w'
                         go_simp
                         with_reducible rfl
                        rotate_left
                        ·simp only [Act.put,List.setIfInBounds_toArray,List.set_cons_zero,List.set_cons_succ,i64_w,i32_w]
                         rfl
                        refine pure_ (i:=6) (N:=some 107) (v:=?_) (a':=?_) #[true,false,true,true,true,false,true,false,false,false,false] rfl rfl (any_of HT_.out (by kernel_rfl)) (fun _ _ _ h=>h) (Or.inl ⟨by rfl,?_⟩) ?_ ?_
                        rotate_left
                        ·intro w'
                         go_simp
                         with_reducible rfl
                        rotate_left
                        ·simp only [Act.put,List.setIfInBounds_toArray,List.set_cons_zero,List.set_cons_succ,i64_w,i32_w]
                         rfl
                        refine take_ (i:=1) (N:=some 102) (v:=?_) (a':=?_) #[true,true,true,true,true,false,true,false,false,false,false] rfl rfl (take_ofW HT_.out HW_.out (by kernel_rfl)) (fun _ _ _ h=>h) (Or.inl ⟨by rfl,?_⟩) hHeld ?_ ?_
                        rotate_left
                        ·rintro w' ⟨s0,s1,s2,s3,s4⟩
                         go_simp
                         with_reducible rfl
                        rotate_left
                        ·simp only [Act.put,List.setIfInBounds_toArray,List.set_cons_zero,List.set_cons_succ,i64_w,i32_w]
                         rfl
                        refine take_ (i:=5) (N:=some 106) (v:=?_) (a':=?_) #[true,true,true,true,true,true,true,false,false,false,false] rfl rfl (take_ofW HT_.out HW_.out (by kernel_rfl)) (fun _ _ _ h=>h) (Or.inl ⟨by rfl,?_⟩) hHeld ?_ ?_
                        rotate_left
                        ·rintro w' ⟨s0,s1,s2,s3,s4⟩
                         go_simp
                         with_reducible rfl
                        rotate_left
                        ·simp only [Act.put,List.setIfInBounds_toArray,List.set_cons_zero,List.set_cons_succ,i64_w,i32_w]
                         rfl
                        refine pure_ (i:=7) (N:=some 108) (v:=?_) (a':=?_) #[true,true,true,true,true,true,true,true,false,false,false] rfl rfl (any_of HT_.out (by kernel_rfl)) (fun _ _ _ h=>h) (Or.inl ⟨by rfl,?_⟩) ?_ ?_
                        rotate_left
                        ·intro w'
                         go_simp
                         with_reducible rfl
                        rotate_left
                        ·simp only [Act.put,List.setIfInBounds_toArray,List.set_cons_zero,List.set_cons_succ,i64_w,i32_w]
                         rfl
                        refine take_ (i:=8) (N:=some 109) (v:=?_) (a':=?_) #[true,true,true,true,true,true,true,true,true,false,false] rfl rfl (take_ofW HT_.out HW_.out (by kernel_rfl)) (fun _ _ _ h=>h) (Or.inl ⟨by rfl,?_⟩) hHeld ?_ ?_
                        rotate_left
                        ·rintro w' ⟨s0,s1,s2,s3,s4⟩
                         go_simp
                         with_reducible rfl
                        rotate_left
                        ·simp only [Act.put,List.setIfInBounds_toArray,List.set_cons_zero,List.set_cons_succ,i64_w,i32_w]
                         rfl
                        refine pure_ (i:=9) (N:=some 110) (v:=?_) (a':=?_) #[true,true,true,true,true,true,true,true,true,true,false] rfl rfl (any_of HT_.out (by kernel_rfl)) (fun _ _ _ h=>h) (Or.inl ⟨by rfl,?_⟩) ?_ ?_
                        rotate_left
                        ·intro w'
                         go_simp
                         with_reducible rfl
                        rotate_left
                        ·simp only [Act.put,List.setIfInBounds_toArray,List.set_cons_zero,List.set_cons_succ,i64_w,i32_w]
                         rfl
                        refine last_ (i:=10) (N:=none) #[true,true,true,true,true,true,true,true,true,true,true] rfl rfl (one_of HT_.out (by kernel_rfl)) (by decide) (fun K hK=>?_)
                        refine skip_ (w1:=?_) (by rfl) rfl ?_ ?_
                        rotate_left
                        ·go_simp
                         rfl
                        refine hK.out _ _ ?_
                        clear hK K
                        refine done_ (done_of HT_.out (by kernel_rfl)) ?_
                        try go_wp2
                        (try simp only [← hl29_1,← hl29_2])
                        go_roundg k2
                        case measure=>have:=HK1.out;have:=HK2.out;omega
                        case rel=>exact ⟨(ji94),(x29_2),(ji97),(x189001_2),(x196001_2),(y220),(y224),(u189001),(.slice (some ad223) x196001_2.length co110),(.slice Ao106 y220.length co106),(.slice (some ⟨go100,0,none⟩) x200001_2.length co100),(by first|rfl|(simp;done)|(simp only [← hji94] <;> (first|rfl|simp))|(simp [*];done)),(by first|rfl|(simp;done)|(simp only [← hji97] <;> (first|rfl|simp))|(simp [*];done)),H',⟨by have:=HK1.out;have:=HK2.out;omega⟩,⟨by (try simp only [hl29_1]);(try simp only [hl29_2]);(with_reducible repeat (first|apply Kd.R_alloc|apply Kd.R_drewN|apply Kd.R_drew));exact Kd.R_mono (Kd.R_far (p:=⟨go100,((ji97) : Int).toNat,none⟩) (Kd.R_mono HO_29.out (fun k_ hk=>(⟨hk,fun e_=>hk.2 (by rw [e_];rfl)⟩ : _∧k_ ≠ go100))) (fun _ hk=>hk.2) (.string (rdOf ByteArray.empty x196001_2 (ji94)))) (fun _ hk=>⟨hk.1.1,hk.1.2⟩)⟩,⟨by (try simp only [hl29_1]);(try simp only [hl29_2]);(with_reducible repeat (first|apply Kd.R_alloc|apply Kd.R_drewN|apply Kd.R_drew));exact Kd.R_mono (Kd.R_far (p:=⟨go100,((ji97) : Int).toNat,none⟩) (Kd.R_types HO_189000.out GG100.out (by decide)) (fun _ hk=>hk.2) (.string (rdOf ByteArray.empty x196001_2 (ji94)))) (fun _ hk=>⟨hk.1.1,hk.1.2⟩)⟩,⟨by (try simp only [hl29_1]);(try simp only [hl29_2]);(with_reducible repeat (first|apply Kd.R_alloc|apply Kd.R_drewN|apply Kd.R_drew));exact Kd.R_mono (Kd.R_far (p:=⟨go100,((ji97) : Int).toNat,none⟩) (Kd.R_mono HO_189001.out (fun k_ hk=>(⟨hk,fun e_=>hk.2 (by rw [e_];rfl)⟩ : _∧k_ ≠ go100))) (fun _ hk=>hk.2) (.string (rdOf ByteArray.empty x196001_2 (ji94)))) (fun _ hk=>⟨hk.1.1,hk.1.2⟩)⟩,⟨by (try simp only [hl29_1]);(try simp only [hl29_2]);(with_reducible repeat (first|apply Kd.R_alloc|apply Kd.R_drewN|apply Kd.R_drew));exact Kd.R_mono (Kd.R_far (p:=⟨go100,((ji97) : Int).toNat,none⟩) (Kd.R_types HO_196000.out GG100.out (by decide)) (fun _ hk=>hk.2) (.string (rdOf ByteArray.empty x196001_2 (ji94)))) (fun _ hk=>⟨hk.1.1,hk.1.2⟩)⟩,⟨by (try simp only [hl29_1]);(try simp only [hl29_2]);(with_reducible repeat (first|apply Kd.R_alloc|apply Kd.R_drewN|apply Kd.R_drew));exact Kd.R_mono (Kd.R_far (p:=⟨go100,((ji97) : Int).toNat,none⟩) (Kd.R_mono HO_196001.out (fun k_ hk=>(⟨hk,fun e_=>hk.2.2 (by rw [e_];rfl)⟩ : _∧k_ ≠ go100))) (fun _ hk=>hk.2) (.string (rdOf ByteArray.empty x196001_2 (ji94)))) (fun _ hk=>⟨hk.1.1,⟨hk.1.2.1,hk.1.2.2⟩⟩)⟩,⟨by (try simp only [hl29_1]);(try simp only [hl29_2]);(with_reducible repeat (first|apply Kd.R_alloc|apply Kd.R_drewN|apply Kd.R_drew));exact Kd.R_mono (Kd.R_far (p:=⟨go100,((ji97) : Int).toNat,none⟩) (Kd.R_types HO222.out GG100.out (by decide)) (fun _ hk=>hk.2) (.string (rdOf ByteArray.empty x196001_2 (ji94)))) (fun _ hk=>⟨hk.1.1,hk.1.2⟩)⟩,⟨by (try simp only [hl29_1]);(try simp only [hl29_2]);(with_reducible repeat (first|apply Kd.R_alloc|apply Kd.R_drewN|apply Kd.R_drew));exact HQ111.out⟩,⟨by (try simp only [hl29_1]);(try simp only [hl29_2]);(with_reducible repeat first|apply blk_drewN|apply blk_drew|apply blk_alloc);refine blk_far ?_ (by have h_:=Kd.R_ne HO_200001.out BK188.out (by decide);intro e_;exact h_ (by rw [e_];rfl)) _;(with_reducible repeat first|apply blk_drewN|apply blk_drew|apply blk_alloc);exact BK188.out⟩,⟨by (try simp only [hl29_1]);(try simp only [hl29_2]);(with_reducible repeat first|apply blk_drewN|apply blk_drew|apply blk_alloc);refine blk_far ?_ (by have h_:=Kd.R_ne HO_200001.out BK195.out (by decide);intro e_;exact h_ (by rw [e_];rfl)) _;(with_reducible repeat first|apply blk_drewN|apply blk_drew|apply blk_alloc);exact BK195.out⟩,⟨by (try simp only [hl29_1]);(try simp only [hl29_2]);(with_reducible repeat first|apply blk_drewN|apply blk_drew|apply blk_alloc);refine blk_far ?_ (by have h_:=Kd.R_ne HO_200001.out BK199.out (by decide);intro e_;exact h_ (by rw [e_];rfl)) _;(with_reducible repeat first|apply blk_drewN|apply blk_drew|apply blk_alloc);exact BK199.out⟩,⟨by repeat (first|(with_reducible first|exact HB.out|apply below_alloc|apply pw_below_drewN|apply below_drew1|refine below_set ?_ GB100.out|refine below_set ?_ GE188.out|refine below_set ?_ GE195.out|refine below_set ?_ GE199.out)|exact HB.out)⟩⟩
                       ·rw [if_neg c99] at H
                        exact absurd H (by simp)
                      ·rw [if_neg c98] at H
                       exact absurd H (by simp)
                     ·rw [if_neg c96] at H
                      exact absurd H (by simp)
                    ·rw [if_neg c95] at H
                     exact absurd H (by simp)
                   ·rw [if_neg c93] at H
                    exact absurd H (by simp)
                  ·rw [if_neg c92] at H
                   exact absurd H (by simp)
                 ·rw [if_neg c91] at H
                  exact absurd H (by simp)
                ·replace c90:=Bool.eq_false_iff.mpr c90
                 subst c90
                 have H1 : (if x200000_1.length < 140737488355328 then (spec_l1Compose.l0 k2 x8_2 x29_2 (t185.length : Int) (wrap64 (x31_1 + 1)) t182 x189001_2 t189 x196001_2 (x200000_1 ++ [false]) x200001_2) else (none)) = some r:=by rw [if_neg (show ¬ (false = true) by decide)] at H;exact H
                 clear H
                 have H:=H1
                 clear H1
                 by_cases c112 : x200000_1.length < 140737488355328
                 ·rw [if_pos c112] at H
                  have LMc112:=Aside0.mk c112
                  clear c112
                  obtain ⟨y225,hy225⟩ : ∃ y_ : List Bool,y_ = (x200000_1 ++ [false]):=⟨_,rfl⟩
                  replace H : (spec_l1Compose.l0 k2 x8_2 x29_2 (t185.length : Int) (wrap64 (x31_1 + 1)) t182 x189001_2 t189 x196001_2 y225 x200001_2) = some r:=by first|(rw [hy225];with_reducible exact H)|(have H2_:=(Option.bind_some _ _).symm.trans H;rw [hy225];with_reducible exact H2_)|(have H2_:=(Option.bind_some _ _).symm.trans H;with_reducible exact H2_)|with_reducible exact H|(rw [hy225];exact H)|exact H
                  have Ny225:=Aside0.mk hy225
                  clear hy225
                  have H':=Aside0.mk H
                  clear H
                  have hnb113:=NB188_195.out
                  have hnc113:=NB195_188.out
                  have hnb114:=NB188_199.out
                  have hnc114:=NB199_188.out
                  have hcz115_0 : wr.cell? ⟨gb188,0,none⟩ = some (.slice Ao12 t182.length co12):=(blk_cell BK188.out 0).trans rfl
                  have hcz115_1 : wr.cell? ⟨gb188,1,none⟩ = some (u189001):=(blk_cell BK188.out 1).trans rfl
                  have hfz115_0:=blk_frozen BK188.out 0
                  have hfz115_1:=blk_frozen BK188.out 1
                  have p218 : 0 ≤ (x31_1 : Int):=of_decide_eq_true (by assumption)
                  have q218 : x31_1 < (t182.length : Int):=of_decide_eq_true (by assumption)
                  obtain ⟨ad218,e218,hx218_0⟩:=Kd.at_bool (Kd.R_reads' HO_189000.out).2.2 x31_1 p218 q218
                  (try rw [← Nbq89.out] at hx218_0)
                  cases e218
                  replace p218:=eq_true p218
                  replace q218:=eq_true q218
                  have hnb116:=NB199_195.out
                  have hnc116:=NB195_199.out
                  have hcz117_0 : wr.cell? ⟨gb199,0,none⟩ = some (u200000):=(blk_cell BK199.out 0).trans rfl
                  have hcz117_1 : wr.cell? ⟨gb199,1,none⟩ = some (u200001):=(blk_cell BK199.out 1).trans rfl
                  have hfz117_0:=blk_frozen BK199.out 0
                  have hfz117_1:=blk_frozen BK199.out 1
                  go_wp2_with (first|((with_reducible refine gate_builtin (b:=.append) (xs:=#[.tmp 85,.tmp 86]) rfl ?_);at_builtin;refine Kd.R_append Kd.bool (w0:=w) w.heap.size rfl (.tmp 85) (.tmp 86) 83 4 (.bool false) 1 rfl Try.underlying83 info4 rfl (by decide) (by omega) u200000 x200000_1 false [.bool false] (fun k_=>some k_ ≠ (.slice (some ad218) t182.length co12 : Value).ownBlock∧some k_ ≠ (.slice Ao17 t189.length co17 : Value).ownBlock) (fun _=>False) rfl rfl ?aP (fun _ hk=>hk.elim) ?aF ?aO ?aB ?aS ?aL ?_;(case aP=>exact rfl);(case aB=>exact (by repeat (first|(with_reducible first|exact HB.out|apply below_alloc|apply pw_below_drewN|apply below_drew1|refine below_set ?_ GE188.out|refine below_set ?_ GE195.out|refine below_set ?_ GE199.out)|exact HB.out)));(case aF=>exact (fun k_ hk=>⟨Kd.fresh' (Kd.R_lt (by (with_reducible repeat (first|apply Kd.R_alloc|apply Kd.R_drewN|apply Kd.R_drew));exact HO_189000.out)) k_ hk,Kd.fresh' (Kd.R_lt (by (with_reducible repeat (first|apply Kd.R_alloc|apply Kd.R_drewN|apply Kd.R_drew));exact HO_196000.out)) k_ hk⟩));(case aO=>exact (by (with_reducible repeat (first|apply Kd.R_alloc|apply Kd.R_drewN|apply Kd.R_drew));exact HO_200000.out));(case aS=>exact (below_size (by repeat (first|(with_reducible first|exact HB.out|apply below_alloc|apply pw_below_drewN|apply below_drew1|refine below_set ?_ GE188.out|refine below_set ?_ GE195.out|refine below_set ?_ GE199.out)|exact HB.out))));(case aL=>have:=LMc112.out;omega);intro v226 w118 ho hb hg hat;rw [← Ny225.out] at ho;have n0_:=Aside0.mk (Kd.R_over' (by (with_reducible repeat (first|apply Kd.R_alloc|apply Kd.R_drewN|apply Kd.R_drew));exact HO_29.out) (Kd.R_typed (by (with_reducible repeat (first|apply Kd.R_alloc|apply Kd.R_drewN|apply Kd.R_drew));exact HO_200000.out)) (by decide) hg);have n1_:=Aside0.mk (Kd.R_after (ok:=(fun k_=>some k_ ≠ (.slice Ao17 t189.length co17 : Value).ownBlock)) (by (with_reducible repeat (first|apply Kd.R_alloc|apply Kd.R_drewN|apply Kd.R_drew));exact HO_189000.out) hg hat);have n2_:=Aside0.mk (Kd.R_over' (by (with_reducible repeat (first|apply Kd.R_alloc|apply Kd.R_drewN|apply Kd.R_drew));exact HO_189001.out) (Kd.R_typed (by (with_reducible repeat (first|apply Kd.R_alloc|apply Kd.R_drewN|apply Kd.R_drew));exact HO_200000.out)) (by decide) hg);have n3_:=Aside0.mk (Kd.R_after (ok:=(fun k_=>some k_ ≠ (.slice (some ad218) t182.length co12 : Value).ownBlock)) (by (with_reducible repeat (first|apply Kd.R_alloc|apply Kd.R_drewN|apply Kd.R_drew));exact HO_196000.out) hg hat);have n4_:=Aside0.mk (Kd.R_over' (by (with_reducible repeat (first|apply Kd.R_alloc|apply Kd.R_drewN|apply Kd.R_drew));exact HO_196001.out) (Kd.R_typed (by (with_reducible repeat (first|apply Kd.R_alloc|apply Kd.R_drewN|apply Kd.R_drew));exact HO_200000.out)) (by decide) hg);have n5_:=Aside0.mk (Kd.R_over' (by (with_reducible repeat (first|apply Kd.R_alloc|apply Kd.R_drewN|apply Kd.R_drew));exact HO_200001.out) (Kd.R_typed (by (with_reducible repeat (first|apply Kd.R_alloc|apply Kd.R_drewN|apply Kd.R_drew));exact HO_200000.out)) (by decide) hg);have n6_:=Aside0.mk (blk_grown (g:=gb188) (o:=.cells #[.slice (some ad218) t182.length co12,u189001] 110 (0,0)) (by (with_reducible repeat first|apply blk_drewN|apply blk_drew|apply blk_alloc);exact BK188.out) hg (Kd.R_ne HO_200000.out BK188.out (by decide)));have n7_:=Aside0.mk (blk_grown (g:=gb195) (o:=.cells #[.slice Ao17 t189.length co17,u196001] 110 (0,0)) (by (with_reducible repeat first|apply blk_drewN|apply blk_drew|apply blk_alloc);exact BK195.out) hg (Kd.R_ne HO_200000.out BK195.out (by decide)));have n8_:=Aside0.mk (blk_grown (g:=gb199) (o:=.cells #[u200000,u200001] 110 (0,0)) (by (with_reducible repeat first|apply blk_drewN|apply blk_drew|apply blk_alloc);exact BK199.out) hg (Kd.R_ne HO_200000.out BK199.out (by decide)));have n9_:=Aside0.mk (hb);have n10_:=Aside0.mk (ho);clear HO_29;clear HO_189000;clear HO_189001;clear HO_196000;clear HO_196001;clear HO_200001;clear BK188;clear BK195;clear BK199;clear HB;clear HO_200000;have HO_29:=n0_;have HO_189000:=n1_;have HO_189001:=n2_;have HO_196000:=n3_;have HO_196001:=n4_;have HO_200001:=n5_;have BK188:=n6_;have BK195:=n7_;have BK199:=n8_;have HB:=n9_;have HO227:=n10_;clear n0_ n1_ n2_ n3_ n4_ n5_ n6_ n7_ n8_ n9_ n10_;clear ho hb hg hat;obtain ⟨Ao119,co119,eo119⟩:=Kd.R_slice HO227.out;subst eo119;have hcz120_0 : w118.cell? ⟨gb199,0,none⟩ = some (u200000):=(blk_cell BK199.out 0).trans rfl;have hcz120_1 : w118.cell? ⟨gb199,1,none⟩ = some (u200001):=(blk_cell BK199.out 1).trans rfl;have hfz120_0:=blk_frozen BK199.out 0;have hfz120_1:=blk_frozen BK199.out 1))
                  (try simp only [← hl29_1,← hl29_2])
                  go_roundg k2
                  case measure=>have:=HK1.out;have:=HK2.out;omega
                  case rel=>exact ⟨(x8_2),(x29_2),(wrap64 (x31_1 + 1)),(x189001_2),(x196001_2),(y225),(x200001_2),(u189001),(u196001),(.slice Ao119 y225.length co119),(u200001),(by first|rfl|(simp;done)|(simp [*];done)),(by first|rfl|(simp;done)|(simp [*];done)),H',⟨by have:=HK1.out;have:=HK2.out;omega⟩,⟨by (try simp only [hl29_1]);(try simp only [hl29_2]);(with_reducible repeat (first|apply Kd.R_alloc|apply Kd.R_drewN|apply Kd.R_drew));exact Kd.R_mono (Kd.R_far (p:=⟨gb199,0,none⟩) (Kd.R_types HO_29.out BK199.out (by decide)) (fun _ hk=>hk.2) (.slice Ao119 y225.length co119)) (fun _ hk=>⟨hk.1.1,hk.1.2⟩)⟩,⟨by (try simp only [hl29_1]);(try simp only [hl29_2]);(with_reducible repeat (first|apply Kd.R_alloc|apply Kd.R_drewN|apply Kd.R_drew));exact Kd.R_mono (Kd.R_far (p:=⟨gb199,0,none⟩) (Kd.R_types HO_189000.out BK199.out (by decide)) (fun _ hk=>hk.2) (.slice Ao119 y225.length co119)) (fun _ hk=>⟨hk.1.1,hk.1.2⟩)⟩,⟨by (try simp only [hl29_1]);(try simp only [hl29_2]);(with_reducible repeat (first|apply Kd.R_alloc|apply Kd.R_drewN|apply Kd.R_drew));exact Kd.R_mono (Kd.R_far (p:=⟨gb199,0,none⟩) (Kd.R_types HO_189001.out BK199.out (by decide)) (fun _ hk=>hk.2) (.slice Ao119 y225.length co119)) (fun _ hk=>⟨hk.1.1,hk.1.2⟩)⟩,⟨by (try simp only [hl29_1]);(try simp only [hl29_2]);(with_reducible repeat (first|apply Kd.R_alloc|apply Kd.R_drewN|apply Kd.R_drew));exact Kd.R_mono (Kd.R_far (p:=⟨gb199,0,none⟩) (Kd.R_types HO_196000.out BK199.out (by decide)) (fun _ hk=>hk.2) (.slice Ao119 y225.length co119)) (fun _ hk=>⟨hk.1.1,hk.1.2⟩)⟩,⟨by (try simp only [hl29_1]);(try simp only [hl29_2]);(with_reducible repeat (first|apply Kd.R_alloc|apply Kd.R_drewN|apply Kd.R_drew));exact Kd.R_mono (Kd.R_far (p:=⟨gb199,0,none⟩) (Kd.R_types HO_196001.out BK199.out (by decide)) (fun _ hk=>hk.2) (.slice Ao119 y225.length co119)) (fun _ hk=>⟨hk.1.1,⟨hk.1.2.1,hk.1.2.2⟩⟩)⟩,⟨by (try simp only [hl29_1]);(try simp only [hl29_2]);(with_reducible repeat (first|apply Kd.R_alloc|apply Kd.R_drewN|apply Kd.R_drew));exact Kd.R_mono (Kd.R_far (p:=⟨gb199,0,none⟩) (Kd.R_types HO227.out BK199.out (by decide)) (fun _ hk=>hk.2) (.slice Ao119 y225.length co119)) (fun _ hk=>⟨hk.1.1,hk.1.2⟩)⟩,⟨by (try simp only [hl29_1]);(try simp only [hl29_2]);(with_reducible repeat (first|apply Kd.R_alloc|apply Kd.R_drewN|apply Kd.R_drew));exact Kd.R_mono (Kd.R_far (p:=⟨gb199,0,none⟩) (Kd.R_types HO_200001.out BK199.out (by decide)) (fun _ hk=>hk.2) (.slice Ao119 y225.length co119)) (fun _ hk=>⟨hk.1.1,⟨hk.1.2.1,hk.1.2.2⟩⟩)⟩,⟨by (try simp only [hl29_1]);(try simp only [hl29_2]);(with_reducible repeat first|apply blk_drewN|apply blk_drew|apply blk_alloc);refine blk_far ?_ NB188_199.out _;(with_reducible repeat first|apply blk_drewN|apply blk_drew|apply blk_alloc);exact BK188.out⟩,⟨by (try simp only [hl29_1]);(try simp only [hl29_2]);(with_reducible repeat first|apply blk_drewN|apply blk_drew|apply blk_alloc);refine blk_far ?_ NB195_199.out _;(with_reducible repeat first|apply blk_drewN|apply blk_drew|apply blk_alloc);exact BK195.out⟩,⟨by (try simp only [hl29_1]);(try simp only [hl29_2]);(with_reducible repeat first|apply blk_drewN|apply blk_drew|apply blk_alloc);refine blk_put (cs:=#[u200000,u200001]) ?_ 0 _ rfl;(with_reducible repeat first|apply blk_drewN|apply blk_drew|apply blk_alloc);exact BK199.out⟩,⟨by repeat (first|(with_reducible first|exact HB.out|apply below_alloc|apply pw_below_drewN|apply below_drew1|refine below_set ?_ GE188.out|refine below_set ?_ GE195.out|refine below_set ?_ GE199.out)|exact HB.out)⟩⟩
                 ·rw [if_neg c112] at H
                  exact absurd H (by simp)
               ·rw [if_neg c88] at H
                exact absurd H (by simp)
              ·rw [if_neg c87] at H
               exact absurd H (by simp)
         ·rw [if_neg c35] at H
          exact absurd H (by simp)
        ·rw [if_neg c34] at H
         exact absurd H (by simp)
       ·rw [if_neg c33] at H
        have c33b0 : decide (x31_1 < (t185.length : Int)) = false:=decide_eq_false c33
        (try (have c33h0:=c33b0;rw [hl29_1] at c33h0))
        clear c33
        replace H:=Option.bind_eq_some_iff.mp H
        obtain ⟨t202,A1210,H⟩:=H
        replace H : (some t202) = some r:=H
        have A121:=Aside0.mk A1210
        clear A1210
        obtain rfl:=Option.some.inj H
        have hnb122:=NB199_188.out
        have hnc122:=NB188_199.out
        have hnb123:=NB199_195.out
        have hnc123:=NB195_199.out
        have hcz124_0 : wr.cell? ⟨gb199,0,none⟩ = some (u200000):=(blk_cell BK199.out 0).trans rfl
        have hcz124_1 : wr.cell? ⟨gb199,1,none⟩ = some (u200001):=(blk_cell BK199.out 1).trans rfl
        have hfz124_0:=blk_frozen BK199.out 0
        have hfz124_1:=blk_frozen BK199.out 1
        obtain ⟨Ao125,co125,eo125⟩:=Kd.R_slice HO_200000.out
        subst eo125
        obtain ⟨Ao126,co126,eo126⟩:=Kd.R_slice HO_200001.out
        subst eo126
        go_wp2_with (first|((with_reducible refine gate_callee (f:=89) rfl ?_);refine goesL_ (some 113) rfl rfl Try.func89 (by kernel_rfl) rfl #[.agg #[.slice Ao125 x200000_1.length co125,.slice Ao126 x200001_1.length co126]] rfl (by (try simp only [List.map_toArray,List.map_cons,List.map_nil]);first|done|rfl|(simp only [List.length_drop,List.length_take];rfl)) ?_;(with_reducible refine (spec_l1Close.calls k1 _ _ x200000_1 _ _ x200001_1 t202 _ ?side1 ?side2 ?side3 ?side4 A121.out).mono ?_);(case side1=>repeat (first|exact (Kd.R_reads' HO_200000.out).2.2|(with_reducible first|apply Kd.C_alloc|apply Kd.C_drewN|apply Kd.C_drew)));(case side2=>exact (Kd.R_reads' HO_200000.out).2.1);(case side3=>repeat (first|exact (Kd.R_reads' HO_200001.out).2.2|(with_reducible first|apply Kd.C_alloc|apply Kd.C_drewN|apply Kd.C_drew)));(case side4=>exact (Kd.R_reads' HO_200001.out).2.1);rintro e w127 ⟨v203,rfl,ho0,hb⟩;refine ⟨_,rfl,?_⟩;have n0_:=Aside0.mk (Kd.R_below (by (with_reducible repeat (first|apply Kd.R_alloc|apply Kd.R_drewN|apply Kd.R_drew));exact HO_29.out) hb);have n1_:=Aside0.mk (Kd.R_below (by (with_reducible repeat (first|apply Kd.R_alloc|apply Kd.R_drewN|apply Kd.R_drew));exact HO_189000.out) hb);have n2_:=Aside0.mk (Kd.R_below (by (with_reducible repeat (first|apply Kd.R_alloc|apply Kd.R_drewN|apply Kd.R_drew));exact HO_189001.out) hb);have n3_:=Aside0.mk (Kd.R_below (by (with_reducible repeat (first|apply Kd.R_alloc|apply Kd.R_drewN|apply Kd.R_drew));exact HO_196000.out) hb);have n4_:=Aside0.mk (Kd.R_below (by (with_reducible repeat (first|apply Kd.R_alloc|apply Kd.R_drewN|apply Kd.R_drew));exact HO_196001.out) hb);have n5_:=Aside0.mk (Kd.R_below (by (with_reducible repeat (first|apply Kd.R_alloc|apply Kd.R_drewN|apply Kd.R_drew));exact HO_200000.out) hb);have n6_:=Aside0.mk (Kd.R_below (by (with_reducible repeat (first|apply Kd.R_alloc|apply Kd.R_drewN|apply Kd.R_drew));exact HO_200001.out) hb);have n7_:=Aside0.mk (Kd.R_lower ho0 (below_size (by repeat (first|(with_reducible first|exact HB.out|apply below_alloc|apply pw_below_drewN|apply below_drew1|refine below_set ?_ GE188.out|refine below_set ?_ GE195.out|refine below_set ?_ GE199.out)|exact HB.out))));have n8_:=Aside0.mk (blk_below (g:=gb188) (o:=.cells #[.slice Ao12 t182.length co12,u189001] 110 (0,0)) (by (with_reducible repeat first|apply blk_drewN|apply blk_drew|apply blk_alloc);exact BK188.out) hb);have n9_:=Aside0.mk (blk_below (g:=gb195) (o:=.cells #[.slice Ao17 t189.length co17,u196001] 110 (0,0)) (by (with_reducible repeat first|apply blk_drewN|apply blk_drew|apply blk_alloc);exact BK195.out) hb);have n10_:=Aside0.mk (blk_below (g:=gb199) (o:=.cells #[.slice Ao125 x200000_1.length co125,.slice Ao126 x200001_1.length co126] 110 (0,0)) (by (with_reducible repeat first|apply blk_drewN|apply blk_drew|apply blk_alloc);exact BK199.out) hb);have n11_:=Aside0.mk (below_step (by repeat (first|(with_reducible first|exact HB.out|apply below_alloc|apply pw_below_drewN|apply below_drew1|refine below_set ?_ GE188.out|refine below_set ?_ GE195.out|refine below_set ?_ GE199.out)|exact HB.out)) hb);clear HO_29;clear HO_189000;clear HO_189001;clear HO_196000;clear HO_196001;clear HO_200000;clear HO_200001;clear BK188;clear BK195;clear BK199;clear HB;have HO_29:=n0_;have HO_189000:=n1_;have HO_189001:=n2_;have HO_196000:=n3_;have HO_196001:=n4_;have HO_200000:=n5_;have HO_200001:=n6_;have HO204:=n7_;have BK188:=n8_;have BK195:=n9_;have BK199:=n10_;have HB:=n11_;clear n0_ n1_ n2_ n3_ n4_ n5_ n6_ n7_ n8_ n9_ n10_ n11_;(try clear hb);(try clear hb2);(try clear hk);(try clear hi);(try clear ho0)))
        go_ret
        exact ⟨_,by first|rfl|(simp [*,errW_none,errW_some] <;> rfl),by (with_reducible repeat (first|apply Kd.R_alloc|apply Kd.R_drewN|apply Kd.R_drew));exact HO204.out,by repeat (first|(with_reducible first|exact HB.out|apply below_alloc|apply pw_below_drewN|apply below_drew1|refine below_set ?_ GE188.out|refine below_set ?_ GE195.out|refine below_set ?_ GE199.out)|exact HB.out)⟩
    ·rw [if_neg c8] at H
     exact absurd H (by simp)
   ·rw [if_neg c7] at H
    exact absurd H (by simp)
  ·rw [if_neg c6] at H
   exact absurd H (by simp)
 ·rw [if_neg c5] at H
  exact absurd H (by simp)

end Go.Proofs.Ytebmncdjlmnbnaa.PFnExactComposeChanges
