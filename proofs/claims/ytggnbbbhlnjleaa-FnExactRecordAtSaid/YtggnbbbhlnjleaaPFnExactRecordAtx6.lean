-- Written by a program of this session over the print of the kit (wip/t/patch_print.py).
import Derived.Test.YtggnbbbhlnjleaaPFnExactRecordAtx0
import Derived.Test.YtggnbbbhlnjleaaPFnExactRecordAtx5
namespace Go.Proofs.Ytggnbbbhlnjleaa.PFnExactRecordAt
open Go.RowKit Go.Proofs.YtggnbbbhlnjleaaW.PrintWords Go.Proofs.YtggnbbbhlnjleaaW.PrintLast Go.Proofs.YtggnbbbhlnjleaaW.PrintMore
attribute [local go_sem] max2_int min2_int max_two min_two max_three min_three max_four min_four   -- for this text's walks alone
set_option linter.unusedVariables false
set_option linter.unusedSimpArgs false

/-! ### spec_l7Record: function 40 -/
mutual
def spec_l7Record.l0 : Nat → Int → List Int → List Int → List (List Int) → List Int → List Int → List Int → Option (List Int × List Int × Bool)
 | 0,_,_,_,_,_,_,_=>none
 | k + 1,x1,x7,x8,x186000,x186001,x186002,x186003=>if x1 = 0 then (some (x7,x8,decide ((x8.length : Int) > 0))) else ((spec_l5Live.f k x186000 x186001 x186002 x186003 x1).bind fun t186=>(if t186 = true then ((spec_l5Has.f k x8 x1).bind fun t187=>(if t187 = true then (spec_l7Record.j1 k x1 x7 x8 true x186000 x186001 x186002 x186003) else (spec_l7Record.j1 k x1 x7 x8 ((x8.length : Int) == 9) x186000 x186001 x186002 x186003))) else (spec_l7Record.j1 k x1 x7 x8 true x186000 x186001 x186002 x186003)))
def spec_l7Record.j1 : Nat → Int → List Int → List Int → Bool → List (List Int) → List Int → List Int → List Int → Option (List Int × List Int × Bool)
 | 0,_,_,_,_,_,_,_,_=>none
 | k + 1,x1,x7,x8,x27,x186000,x186001,x186002,x186003=>if x27 = true then (some (([] : List Int),([] : List Int),false)) else (if 0 ≤ x1 then (if x1 < (x186000.length : Int) then (if 1 < ((rd_L1 x186000 x1).length : Int) then (if 2 < ((rd_L1 x186000 x1).length : Int) then (if 3 < ((rd_L1 x186000 x1).length : Int) then (if 0 < ((rd_L1 x186000 x1).length : Int) then (if (rd (rd_L1 x186000 x1) 0) = 82 then (if (wrap64 (rd (rd_L1 x186000 x1) 3)) > 124 then (spec_l7Record.j2 k x1 x7 x8 (rd_L1 x186000 x1) (wrap64 ((wrap64 ((wrap64 (rd (rd_L1 x186000 x1) 1)) * 256)) + (wrap64 (rd (rd_L1 x186000 x1) 2)))) (wrap64 (rd (rd_L1 x186000 x1) 3)) true x186000 x186001 x186002 x186003) else (if (wrap64 ((wrap64 ((wrap64 (rd (rd_L1 x186000 x1) 1)) * 256)) + (wrap64 (rd (rd_L1 x186000 x1) 2)))) = 0 then (if (wrap64 (rd (rd_L1 x186000 x1) 3)) = 0 then (if (x8.length : Int) > 0 then (spec_l7Record.j2 k x1 x7 x8 (rd_L1 x186000 x1) (wrap64 ((wrap64 ((wrap64 (rd (rd_L1 x186000 x1) 1)) * 256)) + (wrap64 (rd (rd_L1 x186000 x1) 2)))) (wrap64 (rd (rd_L1 x186000 x1) 3)) true x186000 x186001 x186002 x186003) else ((spec_l7Rest.f k (rd_L1 x186000 x1) (wrap64 (4 + (wrap64 (rd (rd_L1 x186000 x1) 3))))).bind fun t193=>(spec_l7Record.j2 k x1 x7 x8 (rd_L1 x186000 x1) (wrap64 ((wrap64 ((wrap64 (rd (rd_L1 x186000 x1) 1)) * 256)) + (wrap64 (rd (rd_L1 x186000 x1) 2)))) (wrap64 (rd (rd_L1 x186000 x1) 3)) (!t193) x186000 x186001 x186002 x186003))) else ((spec_l7Rest.f k (rd_L1 x186000 x1) (wrap64 (4 + (wrap64 (rd (rd_L1 x186000 x1) 3))))).bind fun t194=>(spec_l7Record.j2 k x1 x7 x8 (rd_L1 x186000 x1) (wrap64 ((wrap64 ((wrap64 (rd (rd_L1 x186000 x1) 1)) * 256)) + (wrap64 (rd (rd_L1 x186000 x1) 2)))) (wrap64 (rd (rd_L1 x186000 x1) 3)) (!t194) x186000 x186001 x186002 x186003))) else (if (wrap64 (rd (rd_L1 x186000 x1) 3)) = 124 then (if (wrap64 (rd (rd_L1 x186000 x1) 3)) = 0 then (if (x8.length : Int) > 0 then (spec_l7Record.j2 k x1 x7 x8 (rd_L1 x186000 x1) (wrap64 ((wrap64 ((wrap64 (rd (rd_L1 x186000 x1) 1)) * 256)) + (wrap64 (rd (rd_L1 x186000 x1) 2)))) (wrap64 (rd (rd_L1 x186000 x1) 3)) true x186000 x186001 x186002 x186003) else ((spec_l7Rest.f k (rd_L1 x186000 x1) (wrap64 (4 + (wrap64 (rd (rd_L1 x186000 x1) 3))))).bind fun t195=>(spec_l7Record.j2 k x1 x7 x8 (rd_L1 x186000 x1) (wrap64 ((wrap64 ((wrap64 (rd (rd_L1 x186000 x1) 1)) * 256)) + (wrap64 (rd (rd_L1 x186000 x1) 2)))) (wrap64 (rd (rd_L1 x186000 x1) 3)) (!t195) x186000 x186001 x186002 x186003))) else ((spec_l7Rest.f k (rd_L1 x186000 x1) (wrap64 (4 + (wrap64 (rd (rd_L1 x186000 x1) 3))))).bind fun t196=>(spec_l7Record.j2 k x1 x7 x8 (rd_L1 x186000 x1) (wrap64 ((wrap64 ((wrap64 (rd (rd_L1 x186000 x1) 1)) * 256)) + (wrap64 (rd (rd_L1 x186000 x1) 2)))) (wrap64 (rd (rd_L1 x186000 x1) 3)) (!t196) x186000 x186001 x186002 x186003))) else (spec_l7Record.j2 k x1 x7 x8 (rd_L1 x186000 x1) (wrap64 ((wrap64 ((wrap64 (rd (rd_L1 x186000 x1) 1)) * 256)) + (wrap64 (rd (rd_L1 x186000 x1) 2)))) (wrap64 (rd (rd_L1 x186000 x1) 3)) true x186000 x186001 x186002 x186003)))) else (spec_l7Record.j2 k x1 x7 x8 (rd_L1 x186000 x1) (wrap64 ((wrap64 ((wrap64 (rd (rd_L1 x186000 x1) 1)) * 256)) + (wrap64 (rd (rd_L1 x186000 x1) 2)))) (wrap64 (rd (rd_L1 x186000 x1) 3)) true x186000 x186001 x186002 x186003)) else (none)) else (none)) else (none)) else (none)) else (none)) else (none))
def spec_l7Record.j2 : Nat → Int → List Int → List Int → List Int → Int → Int → Bool → List (List Int) → List Int → List Int → List Int → Option (List Int × List Int × Bool)
 | 0,_,_,_,_,_,_,_,_,_,_,_=>none
 | k + 1,x1,x7,x8,x9,x10,x11,x78,x186000,x186001,x186002,x186003=>if x78 = true then (some (([] : List Int),([] : List Int),false)) else (if 4 ≤ (wrap64 (4 + x11)) then (if (wrap64 (4 + x11)) ≤ (x9.length : Int) then (if x7.length + ((x9.take ((wrap64 (4 + x11)) : Int).toNat).drop 4).length < 140737488355328 then (if x8.length < 17592186044416 then (spec_l7Record.l0 k x10 (x7 ++ ((x9.take ((wrap64 (4 + x11)) : Int).toNat).drop 4)) (x8 ++ [x1]) x186000 x186001 x186002 x186003) else (none)) else (none)) else (none)) else (none))
end
def spec_l7Record.f (k : Nat) (l0_0 : List (List Int)) (l0_1 : List Int) (l0_2 : List Int) (l0_3 : List Int) (a1 : Int) : Option (List Int × List Int × Bool):=spec_l7Record.l0 k a1 ([] : List Int) ([] : List Int) l0_0 l0_1 l0_2 l0_3
theorem spec_l7Record.mono_l : ∀ k,(∀ y0 y1 y2 y3 y4 y5 y6,LeO (spec_l7Record.l0 k y0 y1 y2 y3 y4 y5 y6) (spec_l7Record.l0 (k + 1) y0 y1 y2 y3 y4 y5 y6))∧(∀ y0 y1 y2 y3 y4 y5 y6 y7,LeO (spec_l7Record.j1 k y0 y1 y2 y3 y4 y5 y6 y7) (spec_l7Record.j1 (k + 1) y0 y1 y2 y3 y4 y5 y6 y7))∧(∀ y0 y1 y2 y3 y4 y5 y6 y7 y8 y9 y10,LeO (spec_l7Record.j2 k y0 y1 y2 y3 y4 y5 y6 y7 y8 y9 y10) (spec_l7Record.j2 (k + 1) y0 y1 y2 y3 y4 y5 y6 y7 y8 y9 y10))
 | 0=>⟨fun _ _ _ _ _ _ _ r h=>by simp [spec_l7Record.l0] at h,fun _ _ _ _ _ _ _ _ r h=>by simp [spec_l7Record.j1] at h,fun _ _ _ _ _ _ _ _ _ _ _ r h=>by simp [spec_l7Record.j2] at h⟩
 | k + 1=>by
  obtain ⟨ih0,ih1,ih2⟩:=spec_l7Record.mono_l k
  refine ⟨?_,?_,?_⟩
  ·intro y0 y1 y2 y3 y4 y5 y6
   unfold spec_l7Record.l0
   repeat' first
   | (with_reducible exact ih0 _ _ _ _ _ _ _)
   | (with_reducible exact ih1 _ _ _ _ _ _ _ _)
   | (with_reducible exact ih2 _ _ _ _ _ _ _ _ _ _ _)
   | (with_reducible exact spec_l5Has.mono _ _ _)
   | (with_reducible exact spec_l5Live.mono _ _ _ _ _ _)
   | (with_reducible exact spec_l7Rest.mono _ _ _)
   | (with_reducible exact LeO.refl _)
   | (with_reducible exact LeO.none _)
   | (with_reducible refine LeO.ite ?_ ?_)
   | (with_reducible refine LeO.bind ?_ (fun _=>?_))
   | exact ih0 _ _ _ _ _ _ _
   | exact ih1 _ _ _ _ _ _ _ _
   | exact ih2 _ _ _ _ _ _ _ _ _ _ _
   | exact spec_l5Has.mono _ _ _
   | exact spec_l5Live.mono _ _ _ _ _ _
   | exact spec_l7Rest.mono _ _ _
   | exact LeO.none _
   | refine LeO.ite ?_ ?_
   | refine LeO.bind ?_ (fun _=>?_)
  ·intro y0 y1 y2 y3 y4 y5 y6 y7
   unfold spec_l7Record.j1
   repeat' first
   | (with_reducible exact ih0 _ _ _ _ _ _ _)
   | (with_reducible exact ih1 _ _ _ _ _ _ _ _)
   | (with_reducible exact ih2 _ _ _ _ _ _ _ _ _ _ _)
   | (with_reducible exact spec_l5Has.mono _ _ _)
   | (with_reducible exact spec_l5Live.mono _ _ _ _ _ _)
   | (with_reducible exact spec_l7Rest.mono _ _ _)
   | (with_reducible exact LeO.refl _)
   | (with_reducible exact LeO.none _)
   | (with_reducible refine LeO.ite ?_ ?_)
   | (with_reducible refine LeO.bind ?_ (fun _=>?_))
   | exact ih0 _ _ _ _ _ _ _
   | exact ih1 _ _ _ _ _ _ _ _
   | exact ih2 _ _ _ _ _ _ _ _ _ _ _
   | exact spec_l5Has.mono _ _ _
   | exact spec_l5Live.mono _ _ _ _ _ _
   | exact spec_l7Rest.mono _ _ _
   | exact LeO.none _
   | refine LeO.ite ?_ ?_
   | refine LeO.bind ?_ (fun _=>?_)
  ·intro y0 y1 y2 y3 y4 y5 y6 y7 y8 y9 y10
   unfold spec_l7Record.j2
   repeat' first
   | (with_reducible exact ih0 _ _ _ _ _ _ _)
   | (with_reducible exact ih1 _ _ _ _ _ _ _ _)
   | (with_reducible exact ih2 _ _ _ _ _ _ _ _ _ _ _)
   | (with_reducible exact spec_l5Has.mono _ _ _)
   | (with_reducible exact spec_l5Live.mono _ _ _ _ _ _)
   | (with_reducible exact spec_l7Rest.mono _ _ _)
   | (with_reducible exact LeO.refl _)
   | (with_reducible exact LeO.none _)
   | (with_reducible refine LeO.ite ?_ ?_)
   | (with_reducible refine LeO.bind ?_ (fun _=>?_))
   | exact ih0 _ _ _ _ _ _ _
   | exact ih1 _ _ _ _ _ _ _ _
   | exact ih2 _ _ _ _ _ _ _ _ _ _ _
   | exact spec_l5Has.mono _ _ _
   | exact spec_l5Live.mono _ _ _ _ _ _
   | exact spec_l7Rest.mono _ _ _
   | exact LeO.none _
   | refine LeO.ite ?_ ?_
   | refine LeO.bind ?_ (fun _=>?_)
theorem spec_l7Record.mono : ∀ a0 a1 a2 a3 a4 k,LeO (spec_l7Record.f k a0 a1 a2 a3 a4) (spec_l7Record.f (k + 1) a0 a1 a2 a3 a4):=by
 intro a0 a1 a2 a3 a4 k
 obtain ⟨ih0,ih1,ih2⟩:=spec_l7Record.mono_l k
 unfold spec_l7Record.f
 repeat' first
   | (with_reducible exact ih0 _ _ _ _ _ _ _)
   | (with_reducible exact ih1 _ _ _ _ _ _ _ _)
   | (with_reducible exact ih2 _ _ _ _ _ _ _ _ _ _ _)
   | (with_reducible exact spec_l5Has.mono _ _ _)
   | (with_reducible exact spec_l5Live.mono _ _ _ _ _ _)
   | (with_reducible exact spec_l7Rest.mono _ _ _)
   | (with_reducible exact LeO.refl _)
   | (with_reducible exact LeO.none _)
   | (with_reducible refine LeO.ite ?_ ?_)
   | (with_reducible refine LeO.bind ?_ (fun _=>?_))
   | exact ih0 _ _ _ _ _ _ _
   | exact ih1 _ _ _ _ _ _ _ _
   | exact ih2 _ _ _ _ _ _ _ _ _ _ _
   | exact spec_l5Has.mono _ _ _
   | exact spec_l5Live.mono _ _ _ _ _ _
   | exact spec_l7Rest.mono _ _ _
   | exact LeO.none _
   | refine LeO.ite ?_ ?_
   | refine LeO.bind ?_ (fun _=>?_)
set_option maxHeartbeats 8000000 in
set_option maxRecDepth 100000 in
theorem spec_l7Record.calls (k : Nat) (A0_0 : Option Addr) (c0_0 : Nat) (l0_0 : List (List Int)) (A0_1 : Option Addr) (c0_1 : Nat) (l0_1 : List Int) (A0_2 : Option Addr) (c0_2 : Nat) (l0_2 : List Int) (A0_3 : Option Addr) (c0_3 : Nat) (l0_3 : List Int) (a1 : Int) (r1 : List Int) (r2 : List Int) (r3 : Bool) (w : World) (hr0_0 : Kd.C (Kd.slice 5 (Kd.int .u8)) w A0_0 l0_0.length l0_0) (hc0_0 : l0_0.length ≤ c0_0) (hr0_1 : Kd.C (Kd.int .u8) w A0_1 l0_1.length l0_1) (hc0_1 : l0_1.length ≤ c0_1) (hr0_2 : Kd.C (Kd.int .i64) w A0_2 l0_2.length l0_2) (hc0_2 : l0_2.length ≤ c0_2) (hr0_3 : Kd.C (Kd.int .i64) w A0_3 l0_3.length l0_3) (hc0_3 : l0_3.length ≤ c0_3) (h : spec_l7Record.f k l0_0 l0_1 l0_2 l0_3 a1 = some (r1,r2,r3)) :
  Calls Try.prog 40 #[.agg #[.slice A0_0 l0_0.length c0_0,.slice A0_1 l0_1.length c0_1,.slice A0_2 l0_2.length c0_2,.slice A0_3 l0_3.length c0_3],.int .i64 a1] w fun e w'=>∃ v0_ v1_ : Value,e = .returned (.tuple #[v0_,v1_,.bool r3])∧Kd.R (Kd.int .u8) 5 w' w.heap.size (fun _=>True) v0_ r1∧Kd.R (Kd.int .i64) 3 w' w.heap.size (fun _=>True) v1_ r2∧Below w.heap.size w w':=by
 have hu28:=Try.underlying28
 have HR0_0:=Aside0.mk hr0_0
 have HC0_0:=Aside0.mk hc0_0
 clear hr0_0 hc0_0
 have HR0_1:=Aside0.mk hr0_1
 have HC0_1:=Aside0.mk hc0_1
 clear hr0_1 hc0_1
 have HR0_2:=Aside0.mk hr0_2
 have HC0_2:=Aside0.mk hc0_2
 clear hr0_2 hc0_2
 have HR0_3:=Aside0.mk hr0_3
 have HC0_3:=Aside0.mk hc0_3
 clear hr0_3 hc0_3
 have HB:=Aside0.mk (Below.refl w.heap.size w)
 have H : (spec_l7Record.l0 k a1 ([] : List Int) ([] : List Int) l0_0 l0_1 l0_2 l0_3) = some (r1,r2,r3):=h
 clear h
 have H':=Aside0.mk H
 clear H
 go_enter Try.func40,Try.ntmps40
 go_wp2_with (first|((with_reducible refine gate_dst (N:=2) rfl ?_);(try (refine gate_guard (by rfl) ?_;dsimp only));refine box_event ?hg (N:=2) ?hd (cs:=#[.slice A0_0 l0_0.length c0_0,.slice A0_1 l0_1.length c0_1,.slice A0_2 l0_2.length c0_2,.slice A0_3 l0_3.length c0_3]) (t:=28) ?hr ?_;(case hd=>rfl);(case hg=>rfl);(case hr=>first|(go_simp;done)|(go_simp;rfl));intro gb185 hg w3 hbox hb;have n0_:=Aside0.mk (below_step (by repeat (first|exact HB.out|apply below_alloc|apply pw_below_drewN|apply below_drew1)) hb);have n1_:=Aside0.mk (hbox);have n2_:=Aside0.mk ((by rw [hg];exact (below_size (by repeat (first|exact HB.out|apply below_alloc|apply pw_below_drewN|apply below_drew1))) : w.heap.size ≤ gb185));have n3_:=Aside0.mk ((by rw [hg];exact (below_size (by repeat (first|exact HB.out|apply below_alloc|apply pw_below_drewN|apply below_drew1))) : w.heap.size ≤ gb185));clear HB;have HB:=n0_;have BK185:=n1_;have GW185:=n2_;have GE185:=n3_;clear n0_ n1_ n2_ n3_;clear hb hbox hg))
 repeat (go_quiet (first|((with_reducible refine gate_dst (N:=2) rfl ?_);(try (refine gate_guard (by rfl) ?_;dsimp only));refine box_event ?hg (N:=2) ?hd (cs:=#[.slice A0_0 l0_0.length c0_0,.slice A0_1 l0_1.length c0_1,.slice A0_2 l0_2.length c0_2,.slice A0_3 l0_3.length c0_3]) (t:=28) ?hr ?_;(case hd=>rfl);(case hg=>rfl);(case hr=>first|(go_simp;done)|(go_simp;rfl));intro gb185 hg w3 hbox hb;have n0_:=Aside0.mk (below_step (by repeat (first|exact HB.out|apply below_alloc|apply pw_below_drewN|apply below_drew1)) hb);have n1_:=Aside0.mk (hbox);have n2_:=Aside0.mk ((by rw [hg];exact (below_size (by repeat (first|exact HB.out|apply below_alloc|apply pw_below_drewN|apply below_drew1))) : w.heap.size ≤ gb185));have n3_:=Aside0.mk ((by rw [hg];exact (below_size (by repeat (first|exact HB.out|apply below_alloc|apply pw_below_drewN|apply below_drew1))) : w.heap.size ≤ gb185));clear HB;have HB:=n0_;have BK185:=n1_;have GW185:=n2_;have GE185:=n3_;clear n0_ n1_ n2_ n3_;clear hb hbox hg));try go_wp2_with (first|((with_reducible refine gate_dst (N:=2) rfl ?_);(try (refine gate_guard (by rfl) ?_;dsimp only));refine box_event ?hg (N:=2) ?hd (cs:=#[.slice A0_0 l0_0.length c0_0,.slice A0_1 l0_1.length c0_1,.slice A0_2 l0_2.length c0_2,.slice A0_3 l0_3.length c0_3]) (t:=28) ?hr ?_;(case hd=>rfl);(case hg=>rfl);(case hr=>first|(go_simp;done)|(go_simp;rfl));intro gb185 hg w3 hbox hb;have n0_:=Aside0.mk (below_step (by repeat (first|exact HB.out|apply below_alloc|apply pw_below_drewN|apply below_drew1)) hb);have n1_:=Aside0.mk (hbox);have n2_:=Aside0.mk ((by rw [hg];exact (below_size (by repeat (first|exact HB.out|apply below_alloc|apply pw_below_drewN|apply below_drew1))) : w.heap.size ≤ gb185));have n3_:=Aside0.mk ((by rw [hg];exact (below_size (by repeat (first|exact HB.out|apply below_alloc|apply pw_below_drewN|apply below_drew1))) : w.heap.size ≤ gb185));clear HB;have HB:=n0_;have BK185:=n1_;have GW185:=n2_;have GE185:=n3_;clear n0_ n1_ n2_ n3_;clear hb hbox hg)))
 go_loopg [1,7,8] k (fun kq v1 v7 v8 w'=>∃ (x1_1 : Int) (x7_1 : List Int) (x8_1 : List Int),v1 = .int .i64 x1_1∧Aside0 (spec_l7Record.l0 kq x1_1 x7_1 x8_1 l0_0 l0_1 l0_2 l0_3 = some (r1,r2,r3))∧Aside0 (kq ≤ k)∧Aside0 (Kd.R (Kd.int .u8) 5 w' w.heap.size (fun _=>True) v7 x7_1)∧Aside0 (Kd.R (Kd.int .i64) 3 w' w.heap.size (fun _=>True) v8 x8_1)∧Aside0 (w'.heap[gb185]? = some (.cells #[(.slice A0_0 l0_0.length c0_0),(.slice A0_1 l0_1.length c0_1),(.slice A0_2 l0_2.length c0_2),(.slice A0_3 l0_3.length c0_3)] 28 (0,0)))∧Aside0 (Below w.heap.size w w'))
 case atStart=>exact ⟨(a1),(([] : List Int)),(([] : List Int)),(by first|rfl|(simp;done)|(simp [*];done)),H',⟨Nat.le_refl _⟩,⟨by first|exact Kd.R_nil _ _ _ _ _|exact Kd.N_nil _ _ _ _ _|exact Kd.V_nil _ _ _ _ _|exact Kd.Q_nil _ _ _ _ _|exact Kd.S_nil _ _ _ _ _⟩,⟨by first|exact Kd.R_nil _ _ _ _ _|exact Kd.N_nil _ _ _ _ _|exact Kd.V_nil _ _ _ _ _|exact Kd.Q_nil _ _ _ _ _|exact Kd.S_nil _ _ _ _ _⟩,⟨by (with_reducible repeat first|apply blk_drewN|apply blk_drew|apply blk_alloc);exact BK185.out⟩,⟨by repeat (first|(with_reducible first|exact HB.out|apply below_alloc|apply pw_below_drewN|apply below_drew1|refine below_set ?_ GE185.out)|exact HB.out)⟩⟩
 case round =>
  clear H'
  try clear p2
  obtain ⟨x1_1,x7_1,x8_1,rfl,HA,HK1,HO_7,HO_8,BK185,HB⟩:=hrel
  cases gk with
  | zero=>exact absurd HA.out (by simp [spec_l7Record.l0])
  | succ k1 =>
   have H:=HA.out
   clear HA
   simp only [spec_l7Record.l0] at H
   by_cases c4 : x1_1 = 0
   ·rw [if_pos c4] at H
    have c4b0 : (x1_1 == 0) = true:=beq_iff_eq.mpr c4
    have c4b1 : (x1_1 != 0) = false:=bne_eq_false_iff_eq.mpr c4
    clear c4
    simp only [Option.some.injEq,Prod.mk.injEq] at H
    obtain ⟨rfl,rfl,rfl⟩:=H
    obtain ⟨Ao5,co5,eo5⟩:=Kd.R_slice HO_8.out
    subst eo5
    go_wp2
    repeat (go_quiet (fail);try go_wp2)
    go_ret3
    exact ⟨_,_,by first|rfl|(simp [*,errW_none,errW_some] <;> rfl),by (with_reducible repeat (first|apply Kd.R_alloc|apply Kd.R_drewN|apply Kd.R_drew));exact HO_7.out,by (with_reducible repeat (first|apply Kd.R_alloc|apply Kd.R_drewN|apply Kd.R_drew));exact HO_8.out,by repeat (first|(with_reducible first|exact HB.out|apply below_alloc|apply pw_below_drewN|apply below_drew1|refine below_set ?_ GE185.out)|exact HB.out)⟩
   ·rw [if_neg c4] at H
    have c4b0 : (x1_1 == 0) = false:=beq_eq_false_iff_ne.mpr c4
    have c4b1 : (x1_1 != 0) = true:=bne_iff_ne.mpr c4
    have HC6:=Aside0.mk H
    clear H
    go_upto_region 4 with (fail)
    repeat (go_quiet (fail);go_upto_region 4 with (fail))
    go_cut [27] (fun v27 wc=>∃ (kq : Nat) (x27_5 : Bool),v27 = .bool x27_5∧Aside0 (spec_l7Record.j1 kq x1_1 x7_1 x8_1 x27_5 l0_0 l0_1 l0_2 l0_3 = some (r1,r2,r3))∧Aside0 (kq ≤ k1)∧Aside0 (Kd.R (Kd.int .u8) 5 wc w.heap.size (fun _=>True) u7 x7_1)∧Aside0 (Kd.R (Kd.int .i64) 3 wc w.heap.size (fun _=>True) u8 x8_1)∧Aside0 (wc.heap[gb185]? = some (.cells #[(.slice A0_0 l0_0.length c0_0),(.slice A0_1 l0_1.length c0_1),(.slice A0_2 l0_2.length c0_2),(.slice A0_3 l0_3.length c0_3)] 28 (0,0)))∧Aside0 (Below w.heap.size w wc))
    case first =>
     have H:=HC6.out
     clear HC6
     replace H:=Option.bind_eq_some_iff.mp H
     obtain ⟨t186,A70,H⟩:=H
     have A7:=Aside0.mk A70
     clear A70
     by_cases c8 : t186 = true
     ·subst c8
      rw [if_pos rfl] at H
      replace H:=Option.bind_eq_some_iff.mp H
      obtain ⟨t187,A90,H⟩:=H
      have A9:=Aside0.mk A90
      clear A90
      by_cases c10 : t187 = true
      ·subst c10
       rw [if_pos rfl] at H
       have H':=Aside0.mk H
       clear H
       have hcz11_0 : wr.cell? ⟨gb185,0,none⟩ = some (.slice A0_0 l0_0.length c0_0):=(blk_cell BK185.out 0).trans rfl
       have hcz11_1 : wr.cell? ⟨gb185,1,none⟩ = some (.slice A0_1 l0_1.length c0_1):=(blk_cell BK185.out 1).trans rfl
       have hcz11_2 : wr.cell? ⟨gb185,2,none⟩ = some (.slice A0_2 l0_2.length c0_2):=(blk_cell BK185.out 2).trans rfl
       have hcz11_3 : wr.cell? ⟨gb185,3,none⟩ = some (.slice A0_3 l0_3.length c0_3):=(blk_cell BK185.out 3).trans rfl
       have hfz11_0:=blk_frozen BK185.out 0
       have hfz11_1:=blk_frozen BK185.out 1
       have hfz11_2:=blk_frozen BK185.out 2
       have hfz11_3:=blk_frozen BK185.out 3
       go_wp2_with (first|(go_at_call 55;(with_reducible refine (spec_l5Live.calls k1 _ _ l0_0 _ _ l0_1 _ _ l0_2 _ _ l0_3 x1_1 true _ ?side1 ?side2 ?side3 ?side4 ?side5 ?side6 ?side7 ?side8 A7.out).mono ?_);(case side1=>repeat (first|exact (Kd.C_below HR0_0.out HB.out)|(with_reducible first|apply Kd.C_alloc|apply Kd.C_drewN|apply Kd.C_drew)));(case side2=>exact HC0_0.out);(case side3=>repeat (first|exact (Kd.C_below HR0_1.out HB.out)|(with_reducible first|apply Kd.C_alloc|apply Kd.C_drewN|apply Kd.C_drew)));(case side4=>exact HC0_1.out);(case side5=>repeat (first|exact (Kd.C_below HR0_2.out HB.out)|(with_reducible first|apply Kd.C_alloc|apply Kd.C_drewN|apply Kd.C_drew)));(case side6=>exact HC0_2.out);(case side7=>repeat (first|exact (Kd.C_below HR0_3.out HB.out)|(with_reducible first|apply Kd.C_alloc|apply Kd.C_drewN|apply Kd.C_drew)));(case side8=>exact HC0_3.out);rintro e w12 ⟨rfl,hb⟩;have n0_:=Aside0.mk (Kd.R_below (by (with_reducible repeat (first|apply Kd.R_alloc|apply Kd.R_drewN|apply Kd.R_drew));exact HO_7.out) hb);have n1_:=Aside0.mk (Kd.R_below (by (with_reducible repeat (first|apply Kd.R_alloc|apply Kd.R_drewN|apply Kd.R_drew));exact HO_8.out) hb);have n2_:=Aside0.mk (blk_below (g:=gb185) (o:=.cells #[.slice A0_0 l0_0.length c0_0,.slice A0_1 l0_1.length c0_1,.slice A0_2 l0_2.length c0_2,.slice A0_3 l0_3.length c0_3] 28 (0,0)) (by (with_reducible repeat first|apply blk_drewN|apply blk_drew|apply blk_alloc);exact BK185.out) hb);have n3_:=Aside0.mk (below_step (by repeat (first|(with_reducible first|exact HB.out|apply below_alloc|apply pw_below_drewN|apply below_drew1|refine below_set ?_ GE185.out)|exact HB.out)) hb);clear HO_7;clear HO_8;clear BK185;clear HB;have HO_7:=n0_;have HO_8:=n1_;have BK185:=n2_;have HB:=n3_;clear n0_ n1_ n2_ n3_;(try clear hb);(try clear hb2);(try clear hk);(try clear hi);obtain ⟨Ao13,co13,eo13⟩:=Kd.R_slice HO_8.out;subst eo13)|(go_at_call 56;(with_reducible refine (spec_l5Has.calls k1 _ _ x8_1 x1_1 true _ ?side1 ?side2 A9.out).mono ?_);(case side1=>repeat (first|exact (Kd.R_reads' HO_8.out).2.2|(with_reducible first|apply Kd.C_alloc|apply Kd.C_drewN|apply Kd.C_drew)));(case side2=>exact (Kd.R_reads' HO_8.out).2.1);rintro e w' ⟨rfl,⟨nd,rfl⟩⟩;(try first|exact ⟨rfl,_,World.drewN_drewN _ _ _⟩|exact ⟨rfl,_,Eq.trans (World.drewN_drewN _ _ _) (congrArg (World.drewN _) (Nat.add_assoc _ _ _))⟩)))
       repeat (go_quiet (first|(go_at_call 55;(with_reducible refine (spec_l5Live.calls k1 _ _ l0_0 _ _ l0_1 _ _ l0_2 _ _ l0_3 x1_1 true _ ?side1 ?side2 ?side3 ?side4 ?side5 ?side6 ?side7 ?side8 A7.out).mono ?_);(case side1=>repeat (first|exact (Kd.C_below HR0_0.out HB.out)|(with_reducible first|apply Kd.C_alloc|apply Kd.C_drewN|apply Kd.C_drew)));(case side2=>exact HC0_0.out);(case side3=>repeat (first|exact (Kd.C_below HR0_1.out HB.out)|(with_reducible first|apply Kd.C_alloc|apply Kd.C_drewN|apply Kd.C_drew)));(case side4=>exact HC0_1.out);(case side5=>repeat (first|exact (Kd.C_below HR0_2.out HB.out)|(with_reducible first|apply Kd.C_alloc|apply Kd.C_drewN|apply Kd.C_drew)));(case side6=>exact HC0_2.out);(case side7=>repeat (first|exact (Kd.C_below HR0_3.out HB.out)|(with_reducible first|apply Kd.C_alloc|apply Kd.C_drewN|apply Kd.C_drew)));(case side8=>exact HC0_3.out);rintro e w12 ⟨rfl,hb⟩;have n0_:=Aside0.mk (Kd.R_below (by (with_reducible repeat (first|apply Kd.R_alloc|apply Kd.R_drewN|apply Kd.R_drew));exact HO_7.out) hb);have n1_:=Aside0.mk (Kd.R_below (by (with_reducible repeat (first|apply Kd.R_alloc|apply Kd.R_drewN|apply Kd.R_drew));exact HO_8.out) hb);have n2_:=Aside0.mk (blk_below (g:=gb185) (o:=.cells #[.slice A0_0 l0_0.length c0_0,.slice A0_1 l0_1.length c0_1,.slice A0_2 l0_2.length c0_2,.slice A0_3 l0_3.length c0_3] 28 (0,0)) (by (with_reducible repeat first|apply blk_drewN|apply blk_drew|apply blk_alloc);exact BK185.out) hb);have n3_:=Aside0.mk (below_step (by repeat (first|(with_reducible first|exact HB.out|apply below_alloc|apply pw_below_drewN|apply below_drew1|refine below_set ?_ GE185.out)|exact HB.out)) hb);clear HO_7;clear HO_8;clear BK185;clear HB;have HO_7:=n0_;have HO_8:=n1_;have BK185:=n2_;have HB:=n3_;clear n0_ n1_ n2_ n3_;(try clear hb);(try clear hb2);(try clear hk);(try clear hi);obtain ⟨Ao13,co13,eo13⟩:=Kd.R_slice HO_8.out;subst eo13)|(go_at_call 56;(with_reducible refine (spec_l5Has.calls k1 _ _ x8_1 x1_1 true _ ?side1 ?side2 A9.out).mono ?_);(case side1=>repeat (first|exact (Kd.R_reads' HO_8.out).2.2|(with_reducible first|apply Kd.C_alloc|apply Kd.C_drewN|apply Kd.C_drew)));(case side2=>exact (Kd.R_reads' HO_8.out).2.1);rintro e w' ⟨rfl,⟨nd,rfl⟩⟩;(try first|exact ⟨rfl,_,World.drewN_drewN _ _ _⟩|exact ⟨rfl,_,Eq.trans (World.drewN_drewN _ _ _) (congrArg (World.drewN _) (Nat.add_assoc _ _ _))⟩)));try go_wp2_with (first|(go_at_call 55;(with_reducible refine (spec_l5Live.calls k1 _ _ l0_0 _ _ l0_1 _ _ l0_2 _ _ l0_3 x1_1 true _ ?side1 ?side2 ?side3 ?side4 ?side5 ?side6 ?side7 ?side8 A7.out).mono ?_);(case side1=>repeat (first|exact (Kd.C_below HR0_0.out HB.out)|(with_reducible first|apply Kd.C_alloc|apply Kd.C_drewN|apply Kd.C_drew)));(case side2=>exact HC0_0.out);(case side3=>repeat (first|exact (Kd.C_below HR0_1.out HB.out)|(with_reducible first|apply Kd.C_alloc|apply Kd.C_drewN|apply Kd.C_drew)));(case side4=>exact HC0_1.out);(case side5=>repeat (first|exact (Kd.C_below HR0_2.out HB.out)|(with_reducible first|apply Kd.C_alloc|apply Kd.C_drewN|apply Kd.C_drew)));(case side6=>exact HC0_2.out);(case side7=>repeat (first|exact (Kd.C_below HR0_3.out HB.out)|(with_reducible first|apply Kd.C_alloc|apply Kd.C_drewN|apply Kd.C_drew)));(case side8=>exact HC0_3.out);rintro e w12 ⟨rfl,hb⟩;have n0_:=Aside0.mk (Kd.R_below (by (with_reducible repeat (first|apply Kd.R_alloc|apply Kd.R_drewN|apply Kd.R_drew));exact HO_7.out) hb);have n1_:=Aside0.mk (Kd.R_below (by (with_reducible repeat (first|apply Kd.R_alloc|apply Kd.R_drewN|apply Kd.R_drew));exact HO_8.out) hb);have n2_:=Aside0.mk (blk_below (g:=gb185) (o:=.cells #[.slice A0_0 l0_0.length c0_0,.slice A0_1 l0_1.length c0_1,.slice A0_2 l0_2.length c0_2,.slice A0_3 l0_3.length c0_3] 28 (0,0)) (by (with_reducible repeat first|apply blk_drewN|apply blk_drew|apply blk_alloc);exact BK185.out) hb);have n3_:=Aside0.mk (below_step (by repeat (first|(with_reducible first|exact HB.out|apply below_alloc|apply pw_below_drewN|apply below_drew1|refine below_set ?_ GE185.out)|exact HB.out)) hb);clear HO_7;clear HO_8;clear BK185;clear HB;have HO_7:=n0_;have HO_8:=n1_;have BK185:=n2_;have HB:=n3_;clear n0_ n1_ n2_ n3_;(try clear hb);(try clear hb2);(try clear hk);(try clear hi);obtain ⟨Ao13,co13,eo13⟩:=Kd.R_slice HO_8.out;subst eo13)|(go_at_call 56;(with_reducible refine (spec_l5Has.calls k1 _ _ x8_1 x1_1 true _ ?side1 ?side2 A9.out).mono ?_);(case side1=>repeat (first|exact (Kd.R_reads' HO_8.out).2.2|(with_reducible first|apply Kd.C_alloc|apply Kd.C_drewN|apply Kd.C_drew)));(case side2=>exact (Kd.R_reads' HO_8.out).2.1);rintro e w' ⟨rfl,⟨nd,rfl⟩⟩;(try first|exact ⟨rfl,_,World.drewN_drewN _ _ _⟩|exact ⟨rfl,_,Eq.trans (World.drewN_drewN _ _ _) (congrArg (World.drewN _) (Nat.add_assoc _ _ _))⟩))))
       go_meet
       case rel=>exact ⟨_,(true),(by first|rfl|(simp;done)|(simp [*];done)),H',⟨by have:=HK1.out;first|omega|exact Nat.le_refl _⟩,⟨by (with_reducible repeat (first|apply Kd.R_alloc|apply Kd.R_drewN|apply Kd.R_drew));exact HO_7.out⟩,⟨by (with_reducible repeat (first|apply Kd.R_alloc|apply Kd.R_drewN|apply Kd.R_drew));exact HO_8.out⟩,⟨by (with_reducible repeat first|apply blk_drewN|apply blk_drew|apply blk_alloc);exact BK185.out⟩,⟨by repeat (first|(with_reducible first|exact HB.out|apply below_alloc|apply pw_below_drewN|apply below_drew1|refine below_set ?_ GE185.out)|exact HB.out)⟩⟩
      ·replace c10:=Bool.eq_false_iff.mpr c10
       subst c10
       rw [if_neg (show ¬ (false = true) by decide)] at H
       have H':=Aside0.mk H
       clear H
       have hcz14_0 : wr.cell? ⟨gb185,0,none⟩ = some (.slice A0_0 l0_0.length c0_0):=(blk_cell BK185.out 0).trans rfl
       have hcz14_1 : wr.cell? ⟨gb185,1,none⟩ = some (.slice A0_1 l0_1.length c0_1):=(blk_cell BK185.out 1).trans rfl
       have hcz14_2 : wr.cell? ⟨gb185,2,none⟩ = some (.slice A0_2 l0_2.length c0_2):=(blk_cell BK185.out 2).trans rfl
       have hcz14_3 : wr.cell? ⟨gb185,3,none⟩ = some (.slice A0_3 l0_3.length c0_3):=(blk_cell BK185.out 3).trans rfl
       have hfz14_0:=blk_frozen BK185.out 0
       have hfz14_1:=blk_frozen BK185.out 1
       have hfz14_2:=blk_frozen BK185.out 2
       have hfz14_3:=blk_frozen BK185.out 3
       go_wp2_with (first|(go_at_call 55;(with_reducible refine (spec_l5Live.calls k1 _ _ l0_0 _ _ l0_1 _ _ l0_2 _ _ l0_3 x1_1 true _ ?side1 ?side2 ?side3 ?side4 ?side5 ?side6 ?side7 ?side8 A7.out).mono ?_);(case side1=>repeat (first|exact (Kd.C_below HR0_0.out HB.out)|(with_reducible first|apply Kd.C_alloc|apply Kd.C_drewN|apply Kd.C_drew)));(case side2=>exact HC0_0.out);(case side3=>repeat (first|exact (Kd.C_below HR0_1.out HB.out)|(with_reducible first|apply Kd.C_alloc|apply Kd.C_drewN|apply Kd.C_drew)));(case side4=>exact HC0_1.out);(case side5=>repeat (first|exact (Kd.C_below HR0_2.out HB.out)|(with_reducible first|apply Kd.C_alloc|apply Kd.C_drewN|apply Kd.C_drew)));(case side6=>exact HC0_2.out);(case side7=>repeat (first|exact (Kd.C_below HR0_3.out HB.out)|(with_reducible first|apply Kd.C_alloc|apply Kd.C_drewN|apply Kd.C_drew)));(case side8=>exact HC0_3.out);rintro e w15 ⟨rfl,hb⟩;have n0_:=Aside0.mk (Kd.R_below (by (with_reducible repeat (first|apply Kd.R_alloc|apply Kd.R_drewN|apply Kd.R_drew));exact HO_7.out) hb);have n1_:=Aside0.mk (Kd.R_below (by (with_reducible repeat (first|apply Kd.R_alloc|apply Kd.R_drewN|apply Kd.R_drew));exact HO_8.out) hb);have n2_:=Aside0.mk (blk_below (g:=gb185) (o:=.cells #[.slice A0_0 l0_0.length c0_0,.slice A0_1 l0_1.length c0_1,.slice A0_2 l0_2.length c0_2,.slice A0_3 l0_3.length c0_3] 28 (0,0)) (by (with_reducible repeat first|apply blk_drewN|apply blk_drew|apply blk_alloc);exact BK185.out) hb);have n3_:=Aside0.mk (below_step (by repeat (first|(with_reducible first|exact HB.out|apply below_alloc|apply pw_below_drewN|apply below_drew1|refine below_set ?_ GE185.out)|exact HB.out)) hb);clear HO_7;clear HO_8;clear BK185;clear HB;have HO_7:=n0_;have HO_8:=n1_;have BK185:=n2_;have HB:=n3_;clear n0_ n1_ n2_ n3_;(try clear hb);(try clear hb2);(try clear hk);(try clear hi);obtain ⟨Ao16,co16,eo16⟩:=Kd.R_slice HO_8.out;subst eo16)|(go_at_call 56;(with_reducible refine (spec_l5Has.calls k1 _ _ x8_1 x1_1 false _ ?side1 ?side2 A9.out).mono ?_);(case side1=>repeat (first|exact (Kd.R_reads' HO_8.out).2.2|(with_reducible first|apply Kd.C_alloc|apply Kd.C_drewN|apply Kd.C_drew)));(case side2=>exact (Kd.R_reads' HO_8.out).2.1);rintro e w' ⟨rfl,⟨nd,rfl⟩⟩;(try first|exact ⟨rfl,_,World.drewN_drewN _ _ _⟩|exact ⟨rfl,_,Eq.trans (World.drewN_drewN _ _ _) (congrArg (World.drewN _) (Nat.add_assoc _ _ _))⟩)))
       repeat (go_quiet (first|(go_at_call 55;(with_reducible refine (spec_l5Live.calls k1 _ _ l0_0 _ _ l0_1 _ _ l0_2 _ _ l0_3 x1_1 true _ ?side1 ?side2 ?side3 ?side4 ?side5 ?side6 ?side7 ?side8 A7.out).mono ?_);(case side1=>repeat (first|exact (Kd.C_below HR0_0.out HB.out)|(with_reducible first|apply Kd.C_alloc|apply Kd.C_drewN|apply Kd.C_drew)));(case side2=>exact HC0_0.out);(case side3=>repeat (first|exact (Kd.C_below HR0_1.out HB.out)|(with_reducible first|apply Kd.C_alloc|apply Kd.C_drewN|apply Kd.C_drew)));(case side4=>exact HC0_1.out);(case side5=>repeat (first|exact (Kd.C_below HR0_2.out HB.out)|(with_reducible first|apply Kd.C_alloc|apply Kd.C_drewN|apply Kd.C_drew)));(case side6=>exact HC0_2.out);(case side7=>repeat (first|exact (Kd.C_below HR0_3.out HB.out)|(with_reducible first|apply Kd.C_alloc|apply Kd.C_drewN|apply Kd.C_drew)));(case side8=>exact HC0_3.out);rintro e w15 ⟨rfl,hb⟩;have n0_:=Aside0.mk (Kd.R_below (by (with_reducible repeat (first|apply Kd.R_alloc|apply Kd.R_drewN|apply Kd.R_drew));exact HO_7.out) hb);have n1_:=Aside0.mk (Kd.R_below (by (with_reducible repeat (first|apply Kd.R_alloc|apply Kd.R_drewN|apply Kd.R_drew));exact HO_8.out) hb);have n2_:=Aside0.mk (blk_below (g:=gb185) (o:=.cells #[.slice A0_0 l0_0.length c0_0,.slice A0_1 l0_1.length c0_1,.slice A0_2 l0_2.length c0_2,.slice A0_3 l0_3.length c0_3] 28 (0,0)) (by (with_reducible repeat first|apply blk_drewN|apply blk_drew|apply blk_alloc);exact BK185.out) hb);have n3_:=Aside0.mk (below_step (by repeat (first|(with_reducible first|exact HB.out|apply below_alloc|apply pw_below_drewN|apply below_drew1|refine below_set ?_ GE185.out)|exact HB.out)) hb);clear HO_7;clear HO_8;clear BK185;clear HB;have HO_7:=n0_;have HO_8:=n1_;have BK185:=n2_;have HB:=n3_;clear n0_ n1_ n2_ n3_;(try clear hb);(try clear hb2);(try clear hk);(try clear hi);obtain ⟨Ao16,co16,eo16⟩:=Kd.R_slice HO_8.out;subst eo16)|(go_at_call 56;(with_reducible refine (spec_l5Has.calls k1 _ _ x8_1 x1_1 false _ ?side1 ?side2 A9.out).mono ?_);(case side1=>repeat (first|exact (Kd.R_reads' HO_8.out).2.2|(with_reducible first|apply Kd.C_alloc|apply Kd.C_drewN|apply Kd.C_drew)));(case side2=>exact (Kd.R_reads' HO_8.out).2.1);rintro e w' ⟨rfl,⟨nd,rfl⟩⟩;(try first|exact ⟨rfl,_,World.drewN_drewN _ _ _⟩|exact ⟨rfl,_,Eq.trans (World.drewN_drewN _ _ _) (congrArg (World.drewN _) (Nat.add_assoc _ _ _))⟩)));try go_wp2_with (first|(go_at_call 55;(with_reducible refine (spec_l5Live.calls k1 _ _ l0_0 _ _ l0_1 _ _ l0_2 _ _ l0_3 x1_1 true _ ?side1 ?side2 ?side3 ?side4 ?side5 ?side6 ?side7 ?side8 A7.out).mono ?_);(case side1=>repeat (first|exact (Kd.C_below HR0_0.out HB.out)|(with_reducible first|apply Kd.C_alloc|apply Kd.C_drewN|apply Kd.C_drew)));(case side2=>exact HC0_0.out);(case side3=>repeat (first|exact (Kd.C_below HR0_1.out HB.out)|(with_reducible first|apply Kd.C_alloc|apply Kd.C_drewN|apply Kd.C_drew)));(case side4=>exact HC0_1.out);(case side5=>repeat (first|exact (Kd.C_below HR0_2.out HB.out)|(with_reducible first|apply Kd.C_alloc|apply Kd.C_drewN|apply Kd.C_drew)));(case side6=>exact HC0_2.out);(case side7=>repeat (first|exact (Kd.C_below HR0_3.out HB.out)|(with_reducible first|apply Kd.C_alloc|apply Kd.C_drewN|apply Kd.C_drew)));(case side8=>exact HC0_3.out);rintro e w15 ⟨rfl,hb⟩;have n0_:=Aside0.mk (Kd.R_below (by (with_reducible repeat (first|apply Kd.R_alloc|apply Kd.R_drewN|apply Kd.R_drew));exact HO_7.out) hb);have n1_:=Aside0.mk (Kd.R_below (by (with_reducible repeat (first|apply Kd.R_alloc|apply Kd.R_drewN|apply Kd.R_drew));exact HO_8.out) hb);have n2_:=Aside0.mk (blk_below (g:=gb185) (o:=.cells #[.slice A0_0 l0_0.length c0_0,.slice A0_1 l0_1.length c0_1,.slice A0_2 l0_2.length c0_2,.slice A0_3 l0_3.length c0_3] 28 (0,0)) (by (with_reducible repeat first|apply blk_drewN|apply blk_drew|apply blk_alloc);exact BK185.out) hb);have n3_:=Aside0.mk (below_step (by repeat (first|(with_reducible first|exact HB.out|apply below_alloc|apply pw_below_drewN|apply below_drew1|refine below_set ?_ GE185.out)|exact HB.out)) hb);clear HO_7;clear HO_8;clear BK185;clear HB;have HO_7:=n0_;have HO_8:=n1_;have BK185:=n2_;have HB:=n3_;clear n0_ n1_ n2_ n3_;(try clear hb);(try clear hb2);(try clear hk);(try clear hi);obtain ⟨Ao16,co16,eo16⟩:=Kd.R_slice HO_8.out;subst eo16)|(go_at_call 56;(with_reducible refine (spec_l5Has.calls k1 _ _ x8_1 x1_1 false _ ?side1 ?side2 A9.out).mono ?_);(case side1=>repeat (first|exact (Kd.R_reads' HO_8.out).2.2|(with_reducible first|apply Kd.C_alloc|apply Kd.C_drewN|apply Kd.C_drew)));(case side2=>exact (Kd.R_reads' HO_8.out).2.1);rintro e w' ⟨rfl,⟨nd,rfl⟩⟩;(try first|exact ⟨rfl,_,World.drewN_drewN _ _ _⟩|exact ⟨rfl,_,Eq.trans (World.drewN_drewN _ _ _) (congrArg (World.drewN _) (Nat.add_assoc _ _ _))⟩))))
       go_meet
       case rel=>exact ⟨_,(((x8_1.length : Int) == 9)),(by first|rfl|(simp;done)|(simp [*];done)),H',⟨by have:=HK1.out;first|omega|exact Nat.le_refl _⟩,⟨by (with_reducible repeat (first|apply Kd.R_alloc|apply Kd.R_drewN|apply Kd.R_drew));exact HO_7.out⟩,⟨by (with_reducible repeat (first|apply Kd.R_alloc|apply Kd.R_drewN|apply Kd.R_drew));exact HO_8.out⟩,⟨by (with_reducible repeat first|apply blk_drewN|apply blk_drew|apply blk_alloc);exact BK185.out⟩,⟨by repeat (first|(with_reducible first|exact HB.out|apply below_alloc|apply pw_below_drewN|apply below_drew1|refine below_set ?_ GE185.out)|exact HB.out)⟩⟩
     ·replace c8:=Bool.eq_false_iff.mpr c8
      subst c8
      rw [if_neg (show ¬ (false = true) by decide)] at H
      have H':=Aside0.mk H
      clear H
      have hcz17_0 : wr.cell? ⟨gb185,0,none⟩ = some (.slice A0_0 l0_0.length c0_0):=(blk_cell BK185.out 0).trans rfl
      have hcz17_1 : wr.cell? ⟨gb185,1,none⟩ = some (.slice A0_1 l0_1.length c0_1):=(blk_cell BK185.out 1).trans rfl
      have hcz17_2 : wr.cell? ⟨gb185,2,none⟩ = some (.slice A0_2 l0_2.length c0_2):=(blk_cell BK185.out 2).trans rfl
      have hcz17_3 : wr.cell? ⟨gb185,3,none⟩ = some (.slice A0_3 l0_3.length c0_3):=(blk_cell BK185.out 3).trans rfl
      have hfz17_0:=blk_frozen BK185.out 0
      have hfz17_1:=blk_frozen BK185.out 1
      have hfz17_2:=blk_frozen BK185.out 2
      have hfz17_3:=blk_frozen BK185.out 3
      go_wp2_with (first|(go_at_call 55;(with_reducible refine (spec_l5Live.calls k1 _ _ l0_0 _ _ l0_1 _ _ l0_2 _ _ l0_3 x1_1 false _ ?side1 ?side2 ?side3 ?side4 ?side5 ?side6 ?side7 ?side8 A7.out).mono ?_);(case side1=>repeat (first|exact (Kd.C_below HR0_0.out HB.out)|(with_reducible first|apply Kd.C_alloc|apply Kd.C_drewN|apply Kd.C_drew)));(case side2=>exact HC0_0.out);(case side3=>repeat (first|exact (Kd.C_below HR0_1.out HB.out)|(with_reducible first|apply Kd.C_alloc|apply Kd.C_drewN|apply Kd.C_drew)));(case side4=>exact HC0_1.out);(case side5=>repeat (first|exact (Kd.C_below HR0_2.out HB.out)|(with_reducible first|apply Kd.C_alloc|apply Kd.C_drewN|apply Kd.C_drew)));(case side6=>exact HC0_2.out);(case side7=>repeat (first|exact (Kd.C_below HR0_3.out HB.out)|(with_reducible first|apply Kd.C_alloc|apply Kd.C_drewN|apply Kd.C_drew)));(case side8=>exact HC0_3.out);rintro e w18 ⟨rfl,hb⟩;have n0_:=Aside0.mk (Kd.R_below (by (with_reducible repeat (first|apply Kd.R_alloc|apply Kd.R_drewN|apply Kd.R_drew));exact HO_7.out) hb);have n1_:=Aside0.mk (Kd.R_below (by (with_reducible repeat (first|apply Kd.R_alloc|apply Kd.R_drewN|apply Kd.R_drew));exact HO_8.out) hb);have n2_:=Aside0.mk (blk_below (g:=gb185) (o:=.cells #[.slice A0_0 l0_0.length c0_0,.slice A0_1 l0_1.length c0_1,.slice A0_2 l0_2.length c0_2,.slice A0_3 l0_3.length c0_3] 28 (0,0)) (by (with_reducible repeat first|apply blk_drewN|apply blk_drew|apply blk_alloc);exact BK185.out) hb);have n3_:=Aside0.mk (below_step (by repeat (first|(with_reducible first|exact HB.out|apply below_alloc|apply pw_below_drewN|apply below_drew1|refine below_set ?_ GE185.out)|exact HB.out)) hb);clear HO_7;clear HO_8;clear BK185;clear HB;have HO_7:=n0_;have HO_8:=n1_;have BK185:=n2_;have HB:=n3_;clear n0_ n1_ n2_ n3_;(try clear hb);(try clear hb2);(try clear hk);(try clear hi)))
      repeat (go_quiet (first|(go_at_call 55;(with_reducible refine (spec_l5Live.calls k1 _ _ l0_0 _ _ l0_1 _ _ l0_2 _ _ l0_3 x1_1 false _ ?side1 ?side2 ?side3 ?side4 ?side5 ?side6 ?side7 ?side8 A7.out).mono ?_);(case side1=>repeat (first|exact (Kd.C_below HR0_0.out HB.out)|(with_reducible first|apply Kd.C_alloc|apply Kd.C_drewN|apply Kd.C_drew)));(case side2=>exact HC0_0.out);(case side3=>repeat (first|exact (Kd.C_below HR0_1.out HB.out)|(with_reducible first|apply Kd.C_alloc|apply Kd.C_drewN|apply Kd.C_drew)));(case side4=>exact HC0_1.out);(case side5=>repeat (first|exact (Kd.C_below HR0_2.out HB.out)|(with_reducible first|apply Kd.C_alloc|apply Kd.C_drewN|apply Kd.C_drew)));(case side6=>exact HC0_2.out);(case side7=>repeat (first|exact (Kd.C_below HR0_3.out HB.out)|(with_reducible first|apply Kd.C_alloc|apply Kd.C_drewN|apply Kd.C_drew)));(case side8=>exact HC0_3.out);rintro e w18 ⟨rfl,hb⟩;have n0_:=Aside0.mk (Kd.R_below (by (with_reducible repeat (first|apply Kd.R_alloc|apply Kd.R_drewN|apply Kd.R_drew));exact HO_7.out) hb);have n1_:=Aside0.mk (Kd.R_below (by (with_reducible repeat (first|apply Kd.R_alloc|apply Kd.R_drewN|apply Kd.R_drew));exact HO_8.out) hb);have n2_:=Aside0.mk (blk_below (g:=gb185) (o:=.cells #[.slice A0_0 l0_0.length c0_0,.slice A0_1 l0_1.length c0_1,.slice A0_2 l0_2.length c0_2,.slice A0_3 l0_3.length c0_3] 28 (0,0)) (by (with_reducible repeat first|apply blk_drewN|apply blk_drew|apply blk_alloc);exact BK185.out) hb);have n3_:=Aside0.mk (below_step (by repeat (first|(with_reducible first|exact HB.out|apply below_alloc|apply pw_below_drewN|apply below_drew1|refine below_set ?_ GE185.out)|exact HB.out)) hb);clear HO_7;clear HO_8;clear BK185;clear HB;have HO_7:=n0_;have HO_8:=n1_;have BK185:=n2_;have HB:=n3_;clear n0_ n1_ n2_ n3_;(try clear hb);(try clear hb2);(try clear hk);(try clear hi)));try go_wp2_with (first|(go_at_call 55;(with_reducible refine (spec_l5Live.calls k1 _ _ l0_0 _ _ l0_1 _ _ l0_2 _ _ l0_3 x1_1 false _ ?side1 ?side2 ?side3 ?side4 ?side5 ?side6 ?side7 ?side8 A7.out).mono ?_);(case side1=>repeat (first|exact (Kd.C_below HR0_0.out HB.out)|(with_reducible first|apply Kd.C_alloc|apply Kd.C_drewN|apply Kd.C_drew)));(case side2=>exact HC0_0.out);(case side3=>repeat (first|exact (Kd.C_below HR0_1.out HB.out)|(with_reducible first|apply Kd.C_alloc|apply Kd.C_drewN|apply Kd.C_drew)));(case side4=>exact HC0_1.out);(case side5=>repeat (first|exact (Kd.C_below HR0_2.out HB.out)|(with_reducible first|apply Kd.C_alloc|apply Kd.C_drewN|apply Kd.C_drew)));(case side6=>exact HC0_2.out);(case side7=>repeat (first|exact (Kd.C_below HR0_3.out HB.out)|(with_reducible first|apply Kd.C_alloc|apply Kd.C_drewN|apply Kd.C_drew)));(case side8=>exact HC0_3.out);rintro e w18 ⟨rfl,hb⟩;have n0_:=Aside0.mk (Kd.R_below (by (with_reducible repeat (first|apply Kd.R_alloc|apply Kd.R_drewN|apply Kd.R_drew));exact HO_7.out) hb);have n1_:=Aside0.mk (Kd.R_below (by (with_reducible repeat (first|apply Kd.R_alloc|apply Kd.R_drewN|apply Kd.R_drew));exact HO_8.out) hb);have n2_:=Aside0.mk (blk_below (g:=gb185) (o:=.cells #[.slice A0_0 l0_0.length c0_0,.slice A0_1 l0_1.length c0_1,.slice A0_2 l0_2.length c0_2,.slice A0_3 l0_3.length c0_3] 28 (0,0)) (by (with_reducible repeat first|apply blk_drewN|apply blk_drew|apply blk_alloc);exact BK185.out) hb);have n3_:=Aside0.mk (below_step (by repeat (first|(with_reducible first|exact HB.out|apply below_alloc|apply pw_below_drewN|apply below_drew1|refine below_set ?_ GE185.out)|exact HB.out)) hb);clear HO_7;clear HO_8;clear BK185;clear HB;have HO_7:=n0_;have HO_8:=n1_;have BK185:=n2_;have HB:=n3_;clear n0_ n1_ n2_ n3_;(try clear hb);(try clear hb2);(try clear hk);(try clear hi))))
      go_meet
      case rel=>exact ⟨_,(true),(by first|rfl|(simp;done)|(simp [*];done)),H',⟨by have:=HK1.out;first|omega|exact Nat.le_refl _⟩,⟨by (with_reducible repeat (first|apply Kd.R_alloc|apply Kd.R_drewN|apply Kd.R_drew));exact HO_7.out⟩,⟨by (with_reducible repeat (first|apply Kd.R_alloc|apply Kd.R_drewN|apply Kd.R_drew));exact HO_8.out⟩,⟨by (with_reducible repeat first|apply blk_drewN|apply blk_drew|apply blk_alloc);exact BK185.out⟩,⟨by repeat (first|(with_reducible first|exact HB.out|apply below_alloc|apply pw_below_drewN|apply below_drew1|refine below_set ?_ GE185.out)|exact HB.out)⟩⟩
    case rest =>
     clear HC6
     try clear c1;try clear p2;try clear c4;try clear c4b0;try clear c4b1;try clear c8;try clear c10;try clear hcz11_0;try clear hcz11_1;try clear hcz11_2;try clear hcz11_3;try clear hcz14_0;try clear hcz14_1;try clear hcz14_2;try clear hcz14_3;try clear hcz17_0;try clear hcz17_1;try clear hcz17_2;try clear hcz17_3;try clear hfz11_0;try clear hfz11_1;try clear hfz11_2;try clear hfz11_3;try clear hfz14_0;try clear hfz14_1;try clear hfz14_2;try clear hfz14_3;try clear hfz17_0;try clear hfz17_1;try clear hfz17_2;try clear hfz17_3;try clear p2
     obtain ⟨kq,x27_5,rfl,HA,HJ5,HO_7,HO_8,BK185,HB⟩:=hcut
     cases kq with
     | zero=>exact absurd HA.out (by simp [spec_l7Record.j1])
     | succ kj5 =>
      have H:=HA.out
      clear HA
      simp only [spec_l7Record.j1] at H
      by_cases c19 : x27_5 = true
      ·subst c19
       rw [if_pos rfl] at H
       simp only [Option.some.injEq,Prod.mk.injEq] at H
       obtain ⟨rfl,rfl,rfl⟩:=H
       go_wp2
       repeat (go_quiet (fail);try go_wp2)
       go_ret3
       exact ⟨_,_,by first|rfl|(simp [*,errW_none,errW_some] <;> rfl),by first|exact Kd.R_nil _ _ _ _ _|exact Kd.N_nil _ _ _ _ _|exact Kd.V_nil _ _ _ _ _|exact Kd.Q_nil _ _ _ _ _|exact Kd.S_nil _ _ _ _ _,by first|exact Kd.R_nil _ _ _ _ _|exact Kd.N_nil _ _ _ _ _|exact Kd.V_nil _ _ _ _ _|exact Kd.Q_nil _ _ _ _ _|exact Kd.S_nil _ _ _ _ _,by repeat (first|(with_reducible first|exact HB.out|apply below_alloc|apply pw_below_drewN|apply below_drew1|refine below_set ?_ GE185.out)|exact HB.out)⟩
      ·replace c19:=Bool.eq_false_iff.mpr c19
       subst c19
       rw [if_neg (show ¬ (false = true) by decide)] at H
       by_cases c20 : 0 ≤ x1_1
       ·rw [if_pos c20] at H
        have c20b0 : decide (0 ≤ x1_1) = true:=decide_eq_true c20
        clear c20
        by_cases c21 : x1_1 < (l0_0.length : Int)
        ·rw [if_pos c21] at H
         have c21b0 : decide (x1_1 < (l0_0.length : Int)) = true:=decide_eq_true c21
         clear c21
         by_cases c22 : 1 < ((rd_L1 l0_0 x1_1).length : Int)
         ·rw [if_pos c22] at H
          have c22b0 : decide (1 < ((rd_L1 l0_0 x1_1).length : Int)) = true:=decide_eq_true c22
          have c22b1 : decide (1 < (rd_L1 l0_0 x1_1).length) = true:=decide_eq_true (by omega)
          clear c22
          by_cases c23 : 2 < ((rd_L1 l0_0 x1_1).length : Int)
          ·rw [if_pos c23] at H
           have c23b0 : decide (2 < ((rd_L1 l0_0 x1_1).length : Int)) = true:=decide_eq_true c23
           have c23b1 : decide (2 < (rd_L1 l0_0 x1_1).length) = true:=decide_eq_true (by omega)
           clear c23
           by_cases c24 : 3 < ((rd_L1 l0_0 x1_1).length : Int)
           ·rw [if_pos c24] at H
            have c24b0 : decide (3 < ((rd_L1 l0_0 x1_1).length : Int)) = true:=decide_eq_true c24
            have c24b1 : decide (3 < (rd_L1 l0_0 x1_1).length) = true:=decide_eq_true (by omega)
            clear c24
            have HC25:=Aside0.mk H
            clear H
            have hcz26_0 : wc.cell? ⟨gb185,0,none⟩ = some (.slice A0_0 l0_0.length c0_0):=(blk_cell BK185.out 0).trans rfl
            have hcz26_1 : wc.cell? ⟨gb185,1,none⟩ = some (.slice A0_1 l0_1.length c0_1):=(blk_cell BK185.out 1).trans rfl
            have hcz26_2 : wc.cell? ⟨gb185,2,none⟩ = some (.slice A0_2 l0_2.length c0_2):=(blk_cell BK185.out 2).trans rfl
            have hcz26_3 : wc.cell? ⟨gb185,3,none⟩ = some (.slice A0_3 l0_3.length c0_3):=(blk_cell BK185.out 3).trans rfl
            have hfz26_0:=blk_frozen BK185.out 0
            have hfz26_1:=blk_frozen BK185.out 1
            have hfz26_2:=blk_frozen BK185.out 2
            have hfz26_3:=blk_frozen BK185.out 3
            have p188 : 0 ≤ (x1_1 : Int):=of_decide_eq_true (by assumption)
            have q188 : x1_1 < (l0_0.length : Int):=of_decide_eq_true (by assumption)
            obtain ⟨ad188,A188_0,c188_0,e188,hx188_0,hl188_0,hi188_0⟩:=at_L1 HR0_0.out x1_1 p188 q188
            cases e188
            (try replace hx188_0:=(HB.out.cell (World.block_lt_of_cell? w _ hx188_0)).trans hx188_0)
            have HR188_0:=Aside0.mk hi188_0
            have HC188_0:=Aside0.mk hl188_0
            clear hi188_0 hl188_0
            replace p188:=eq_true p188
            replace q188:=eq_true q188
            have p189 : 0 ≤ (1 : Int):=(by omega)
            have q189 : 1 < ((rd_L1 l0_0 x1_1).length : Int):=of_decide_eq_true (by assumption)
            obtain ⟨ad189,e189,hx189_0⟩:=Kd.at_int HR188_0.out 1 p189 q189
            cases e189
            (try simp only [show (1 : Int).toNat = 1 from rfl,Nat.reduceMul,Nat.reduceEqDiff,Go.Addr.add,↓reduceIte] at hx189_0)
            have qi189 : (1 < (rd_L1 l0_0 x1_1).length) = True:=eq_true (by omega)
            (try rw [show ((1 : Int)).toNat = 1 from rfl] at hx189_0)
            (try replace hx189_0:=(HB.out.cell (World.block_lt_of_cell? w _ hx189_0)).trans hx189_0)
            replace p189:=eq_true p189
            replace q189:=eq_true q189
            have p190 : 0 ≤ (2 : Int):=(by omega)
            have q190 : 2 < ((rd_L1 l0_0 x1_1).length : Int):=of_decide_eq_true (by assumption)
            obtain ⟨ad190,e190,hx190_0⟩:=Kd.at_int HR188_0.out 2 p190 q190
            obtain rfl : ad189 = ad190:=(by injection e190)
            (try simp only [show (2 : Int).toNat = 2 from rfl,Nat.reduceMul,Nat.reduceEqDiff,Go.Addr.add,↓reduceIte] at hx190_0)
            have qi190 : (2 < (rd_L1 l0_0 x1_1).length) = True:=eq_true (by omega)
            (try rw [show ((2 : Int)).toNat = 2 from rfl] at hx190_0)
            (try replace hx190_0:=(HB.out.cell (World.block_lt_of_cell? w _ hx190_0)).trans hx190_0)
            replace p190:=eq_true p190
            replace q190:=eq_true q190
            have p191 : 0 ≤ (3 : Int):=(by omega)
            have q191 : 3 < ((rd_L1 l0_0 x1_1).length : Int):=of_decide_eq_true (by assumption)
            obtain ⟨ad191,e191,hx191_0⟩:=Kd.at_int HR188_0.out 3 p191 q191
            obtain rfl : ad189 = ad191:=(by injection e191)
            (try simp only [show (3 : Int).toNat = 3 from rfl,Nat.reduceMul,Nat.reduceEqDiff,Go.Addr.add,↓reduceIte] at hx191_0)
            have qi191 : (3 < (rd_L1 l0_0 x1_1).length) = True:=eq_true (by omega)
            (try rw [show ((3 : Int)).toNat = 3 from rfl] at hx191_0)
            (try replace hx191_0:=(HB.out.cell (World.block_lt_of_cell? w _ hx191_0)).trans hx191_0)
            replace p191:=eq_true p191
            replace q191:=eq_true q191
            go_upto_region 9 with (fail)
            repeat (go_quiet (fail);go_upto_region 9 with (fail))
            go_cut [78] (fun v78 wc=>∃ (kq : Nat) (x78_24 : Bool),v78 = .bool x78_24∧Aside0 (spec_l7Record.j2 kq x1_1 x7_1 x8_1 (rd_L1 l0_0 x1_1) (wrap64 ((wrap64 ((wrap64 (rd (rd_L1 l0_0 x1_1) 1)) * 256)) + (wrap64 (rd (rd_L1 l0_0 x1_1) 2)))) (wrap64 (rd (rd_L1 l0_0 x1_1) 3)) x78_24 l0_0 l0_1 l0_2 l0_3 = some (r1,r2,r3))∧Aside0 (kq ≤ kj5)∧Aside0 (Kd.R (Kd.int .u8) 5 wc w.heap.size (fun _=>True) u7 x7_1)∧Aside0 (Kd.R (Kd.int .i64) 3 wc w.heap.size (fun _=>True) u8 x8_1)∧Aside0 (wc.heap[gb185]? = some (.cells #[(.slice (some ad188) l0_0.length c0_0),(.slice A0_1 l0_1.length c0_1),(.slice A0_2 l0_2.length c0_2),(.slice A0_3 l0_3.length c0_3)] 28 (0,0)))∧Aside0 (Below w.heap.size w wc))
            case first =>
             have H:=HC25.out
             clear HC25
             by_cases c27 : 0 < ((rd_L1 l0_0 x1_1).length : Int)
             ·rw [if_pos c27] at H
              have c27b0 : decide (0 < ((rd_L1 l0_0 x1_1).length : Int)) = true:=decide_eq_true c27
              have c27b1 : decide (0 < (rd_L1 l0_0 x1_1).length) = true:=decide_eq_true (by omega)
              clear c27
              (first|rw [c27b0]|(simp only [i64_w,i32_w];rw [c27b0])|skip)
              by_cases c28 : (rd (rd_L1 l0_0 x1_1) 0) = 82
              ·rw [if_pos c28] at H
               have c28b0 : ((rd (rd_L1 l0_0 x1_1) 0) == 82) = true:=beq_iff_eq.mpr c28
               have c28b1 : ((rd (rd_L1 l0_0 x1_1) 0) != 82) = false:=bne_eq_false_iff_eq.mpr c28
               clear c28
               by_cases c29 : (wrap64 (rd (rd_L1 l0_0 x1_1) 3)) > 124
               ·rw [if_pos c29] at H
                have c29b0 : decide (124 < (wrap64 (rd (rd_L1 l0_0 x1_1) 3))) = true:=decide_eq_true c29
                clear c29
                have H':=Aside0.mk H
                clear H
                have p192 : 0 ≤ (0 : Int):=(by omega)
                have q192 : 0 < ((rd_L1 l0_0 x1_1).length : Int):=of_decide_eq_true (by assumption)
                obtain ⟨ad192,e192,hx192_0⟩:=Kd.at_int HR188_0.out 0 p192 q192
                obtain rfl : ad189 = ad192:=(by injection e192)
                have qi192 : (0 < (rd_L1 l0_0 x1_1).length) = True:=eq_true (by omega)
                (try rw [show ((0 : Int)).toNat = 0 from rfl] at hx192_0)
                (try rw [Addr.add_zero'] at hx192_0)
                (try replace hx192_0:=(HB.out.cell (World.block_lt_of_cell? w _ hx192_0)).trans hx192_0)
                replace p192:=eq_true p192
                replace q192:=eq_true q192
                go_wp2
                repeat (go_quiet (fail);try go_wp2)
                go_meet
                case rel=>exact ⟨_,(true),(by first|rfl|(simp;done)|(simp [*];done)),H',⟨by have:=HK1.out;have:=HJ5.out;first|omega|exact Nat.le_refl _⟩,⟨by (with_reducible repeat (first|apply Kd.R_alloc|apply Kd.R_drewN|apply Kd.R_drew));exact HO_7.out⟩,⟨by (with_reducible repeat (first|apply Kd.R_alloc|apply Kd.R_drewN|apply Kd.R_drew));exact HO_8.out⟩,⟨by (with_reducible repeat first|apply blk_drewN|apply blk_drew|apply blk_alloc);exact BK185.out⟩,⟨by repeat (first|(with_reducible first|exact HB.out|apply below_alloc|apply pw_below_drewN|apply below_drew1|refine below_set ?_ GE185.out)|exact HB.out)⟩⟩
               ·rw [if_neg c29] at H
                have c29b0 : decide (124 < (wrap64 (rd (rd_L1 l0_0 x1_1) 3))) = false:=decide_eq_false c29
                clear c29
                by_cases c30 : (wrap64 ((wrap64 ((wrap64 (rd (rd_L1 l0_0 x1_1) 1)) * 256)) + (wrap64 (rd (rd_L1 l0_0 x1_1) 2)))) = 0
                ·rw [if_pos c30] at H
                 have c30b0 : ((wrap64 ((wrap64 ((wrap64 (rd (rd_L1 l0_0 x1_1) 1)) * 256)) + (wrap64 (rd (rd_L1 l0_0 x1_1) 2)))) == 0) = true:=beq_iff_eq.mpr c30
                 have c30b1 : ((wrap64 ((wrap64 ((wrap64 (rd (rd_L1 l0_0 x1_1) 1)) * 256)) + (wrap64 (rd (rd_L1 l0_0 x1_1) 2)))) != 0) = false:=bne_eq_false_iff_eq.mpr c30
                 clear c30
                 by_cases c31 : (wrap64 (rd (rd_L1 l0_0 x1_1) 3)) = 0
                 ·rw [if_pos c31] at H
                  have c31b0 : ((wrap64 (rd (rd_L1 l0_0 x1_1) 3)) == 0) = true:=beq_iff_eq.mpr c31
                  have c31b1 : ((wrap64 (rd (rd_L1 l0_0 x1_1) 3)) != 0) = false:=bne_eq_false_iff_eq.mpr c31
                  clear c31
                  by_cases c32 : (x8_1.length : Int) > 0
                  ·rw [if_pos c32] at H
                   have c32b0 : decide (0 < (x8_1.length : Int)) = true:=decide_eq_true c32
                   have c32b1 : decide (0 < x8_1.length) = true:=decide_eq_true (by omega)
                   clear c32
                   have H':=Aside0.mk H
                   clear H
                   have p192 : 0 ≤ (0 : Int):=(by omega)
                   have q192 : 0 < ((rd_L1 l0_0 x1_1).length : Int):=of_decide_eq_true (by assumption)
                   obtain ⟨ad192,e192,hx192_0⟩:=Kd.at_int HR188_0.out 0 p192 q192
                   obtain rfl : ad189 = ad192:=(by injection e192)
                   have qi192 : (0 < (rd_L1 l0_0 x1_1).length) = True:=eq_true (by omega)
                   (try rw [show ((0 : Int)).toNat = 0 from rfl] at hx192_0)
                   (try rw [Addr.add_zero'] at hx192_0)
                   (try replace hx192_0:=(HB.out.cell (World.block_lt_of_cell? w _ hx192_0)).trans hx192_0)
                   replace p192:=eq_true p192
                   replace q192:=eq_true q192
                   obtain ⟨Ao33,co33,eo33⟩:=Kd.R_slice HO_8.out
                   subst eo33
                   go_wp2
                   repeat (go_quiet (fail);try go_wp2)
                   go_meet
                   case rel=>exact ⟨_,(true),(by first|rfl|(simp;done)|(simp [*];done)),H',⟨by have:=HK1.out;have:=HJ5.out;first|omega|exact Nat.le_refl _⟩,⟨by (with_reducible repeat (first|apply Kd.R_alloc|apply Kd.R_drewN|apply Kd.R_drew));exact HO_7.out⟩,⟨by (with_reducible repeat (first|apply Kd.R_alloc|apply Kd.R_drewN|apply Kd.R_drew));exact HO_8.out⟩,⟨by (with_reducible repeat first|apply blk_drewN|apply blk_drew|apply blk_alloc);exact BK185.out⟩,⟨by repeat (first|(with_reducible first|exact HB.out|apply below_alloc|apply pw_below_drewN|apply below_drew1|refine below_set ?_ GE185.out)|exact HB.out)⟩⟩
                  ·rw [if_neg c32] at H
                   have c32b0 : decide (0 < (x8_1.length : Int)) = false:=decide_eq_false c32
                   have c32b1 : decide (0 < x8_1.length) = false:=decide_eq_false (by omega)
                   clear c32
                   replace H:=Option.bind_eq_some_iff.mp H
                   obtain ⟨t193,A340,H⟩:=H
                   have A34:=Aside0.mk A340
                   clear A340
                   have H':=Aside0.mk H
                   clear H
                   have p192 : 0 ≤ (0 : Int):=(by omega)
                   have q192 : 0 < ((rd_L1 l0_0 x1_1).length : Int):=of_decide_eq_true (by assumption)
                   obtain ⟨ad192,e192,hx192_0⟩:=Kd.at_int HR188_0.out 0 p192 q192
                   obtain rfl : ad189 = ad192:=(by injection e192)
                   have qi192 : (0 < (rd_L1 l0_0 x1_1).length) = True:=eq_true (by omega)
                   (try rw [show ((0 : Int)).toNat = 0 from rfl] at hx192_0)
                   (try rw [Addr.add_zero'] at hx192_0)
                   (try replace hx192_0:=(HB.out.cell (World.block_lt_of_cell? w _ hx192_0)).trans hx192_0)
                   replace p192:=eq_true p192
                   replace q192:=eq_true q192
                   obtain ⟨Ao35,co35,eo35⟩:=Kd.R_slice HO_8.out
                   subst eo35
                   go_wp2_with (first|(go_at_call 57;(with_reducible refine (spec_l7Rest.calls kj5 _ _ (rd_L1 l0_0 x1_1) (wrap64 (4 + (wrap64 (rd (rd_L1 l0_0 x1_1) 3)))) t193 _ ?side1 ?side2 A34.out).mono ?_);(case side1=>repeat (first|exact (Kd.C_below HR188_0.out HB.out)|(with_reducible first|apply Kd.C_alloc|apply Kd.C_drewN|apply Kd.C_drew)));(case side2=>exact HC188_0.out);rintro e w' ⟨rfl,⟨nd,rfl⟩⟩;(try first|exact ⟨rfl,_,World.drewN_drewN _ _ _⟩|exact ⟨rfl,_,Eq.trans (World.drewN_drewN _ _ _) (congrArg (World.drewN _) (Nat.add_assoc _ _ _))⟩)))
                   have hwq : ∀ n,IntKind.i64.wrap n = wrap64 n:=fun n=>by rw [IntKind.wrap_i64];unfold wrap64;first|rfl|omega
                   repeat (go_quiet (first|(go_at_call 57;(with_reducible refine (spec_l7Rest.calls kj5 _ _ (rd_L1 l0_0 x1_1) (wrap64 (4 + (wrap64 (rd (rd_L1 l0_0 x1_1) 3)))) t193 _ ?side1 ?side2 A34.out).mono ?_);(case side1=>repeat (first|exact (Kd.C_below HR188_0.out HB.out)|(with_reducible first|apply Kd.C_alloc|apply Kd.C_drewN|apply Kd.C_drew)));(case side2=>exact HC188_0.out);rintro e w' ⟨rfl,⟨nd,rfl⟩⟩;(try first|exact ⟨rfl,_,World.drewN_drewN _ _ _⟩|exact ⟨rfl,_,Eq.trans (World.drewN_drewN _ _ _) (congrArg (World.drewN _) (Nat.add_assoc _ _ _))⟩)));try go_wp2_with (first|(go_at_call 57;(with_reducible refine (spec_l7Rest.calls kj5 _ _ (rd_L1 l0_0 x1_1) (wrap64 (4 + (wrap64 (rd (rd_L1 l0_0 x1_1) 3)))) t193 _ ?side1 ?side2 A34.out).mono ?_);(case side1=>repeat (first|exact (Kd.C_below HR188_0.out HB.out)|(with_reducible first|apply Kd.C_alloc|apply Kd.C_drewN|apply Kd.C_drew)));(case side2=>exact HC188_0.out);rintro e w' ⟨rfl,⟨nd,rfl⟩⟩;(try first|exact ⟨rfl,_,World.drewN_drewN _ _ _⟩|exact ⟨rfl,_,Eq.trans (World.drewN_drewN _ _ _) (congrArg (World.drewN _) (Nat.add_assoc _ _ _))⟩))))
                   go_meet
                   case rel=>exact ⟨_,(!t193),(by first|rfl|(simp;done)|(simp [*];done)),H',⟨by have:=HK1.out;have:=HJ5.out;first|omega|exact Nat.le_refl _⟩,⟨by (with_reducible repeat (first|apply Kd.R_alloc|apply Kd.R_drewN|apply Kd.R_drew));exact HO_7.out⟩,⟨by (with_reducible repeat (first|apply Kd.R_alloc|apply Kd.R_drewN|apply Kd.R_drew));exact HO_8.out⟩,⟨by (with_reducible repeat first|apply blk_drewN|apply blk_drew|apply blk_alloc);exact BK185.out⟩,⟨by repeat (first|(with_reducible first|exact HB.out|apply below_alloc|apply pw_below_drewN|apply below_drew1|refine below_set ?_ GE185.out)|exact HB.out)⟩⟩
                 ·rw [if_neg c31] at H
                  have c31b0 : ((wrap64 (rd (rd_L1 l0_0 x1_1) 3)) == 0) = false:=beq_eq_false_iff_ne.mpr c31
                  have c31b1 : ((wrap64 (rd (rd_L1 l0_0 x1_1) 3)) != 0) = true:=bne_iff_ne.mpr c31
                  replace H:=Option.bind_eq_some_iff.mp H
                  obtain ⟨t194,A360,H⟩:=H
                  have A36:=Aside0.mk A360
                  clear A360
                  have H':=Aside0.mk H
                  clear H
                  have p192 : 0 ≤ (0 : Int):=(by omega)
                  have q192 : 0 < ((rd_L1 l0_0 x1_1).length : Int):=of_decide_eq_true (by assumption)
                  obtain ⟨ad192,e192,hx192_0⟩:=Kd.at_int HR188_0.out 0 p192 q192
                  obtain rfl : ad189 = ad192:=(by injection e192)
                  have qi192 : (0 < (rd_L1 l0_0 x1_1).length) = True:=eq_true (by omega)
                  (try rw [show ((0 : Int)).toNat = 0 from rfl] at hx192_0)
                  (try rw [Addr.add_zero'] at hx192_0)
                  (try replace hx192_0:=(HB.out.cell (World.block_lt_of_cell? w _ hx192_0)).trans hx192_0)
                  replace p192:=eq_true p192
                  replace q192:=eq_true q192
                  go_wp2_with (first|(go_at_call 57;(with_reducible refine (spec_l7Rest.calls kj5 _ _ (rd_L1 l0_0 x1_1) (wrap64 (4 + (wrap64 (rd (rd_L1 l0_0 x1_1) 3)))) t194 _ ?side1 ?side2 A36.out).mono ?_);(case side1=>repeat (first|exact (Kd.C_below HR188_0.out HB.out)|(with_reducible first|apply Kd.C_alloc|apply Kd.C_drewN|apply Kd.C_drew)));(case side2=>exact HC188_0.out);rintro e w' ⟨rfl,⟨nd,rfl⟩⟩;(try first|exact ⟨rfl,_,World.drewN_drewN _ _ _⟩|exact ⟨rfl,_,Eq.trans (World.drewN_drewN _ _ _) (congrArg (World.drewN _) (Nat.add_assoc _ _ _))⟩)))
                  have hwq : ∀ n,IntKind.i64.wrap n = wrap64 n:=fun n=>by rw [IntKind.wrap_i64];unfold wrap64;first|rfl|omega
                  repeat (go_quiet (first|(go_at_call 57;(with_reducible refine (spec_l7Rest.calls kj5 _ _ (rd_L1 l0_0 x1_1) (wrap64 (4 + (wrap64 (rd (rd_L1 l0_0 x1_1) 3)))) t194 _ ?side1 ?side2 A36.out).mono ?_);(case side1=>repeat (first|exact (Kd.C_below HR188_0.out HB.out)|(with_reducible first|apply Kd.C_alloc|apply Kd.C_drewN|apply Kd.C_drew)));(case side2=>exact HC188_0.out);rintro e w' ⟨rfl,⟨nd,rfl⟩⟩;(try first|exact ⟨rfl,_,World.drewN_drewN _ _ _⟩|exact ⟨rfl,_,Eq.trans (World.drewN_drewN _ _ _) (congrArg (World.drewN _) (Nat.add_assoc _ _ _))⟩)));try go_wp2_with (first|(go_at_call 57;(with_reducible refine (spec_l7Rest.calls kj5 _ _ (rd_L1 l0_0 x1_1) (wrap64 (4 + (wrap64 (rd (rd_L1 l0_0 x1_1) 3)))) t194 _ ?side1 ?side2 A36.out).mono ?_);(case side1=>repeat (first|exact (Kd.C_below HR188_0.out HB.out)|(with_reducible first|apply Kd.C_alloc|apply Kd.C_drewN|apply Kd.C_drew)));(case side2=>exact HC188_0.out);rintro e w' ⟨rfl,⟨nd,rfl⟩⟩;(try first|exact ⟨rfl,_,World.drewN_drewN _ _ _⟩|exact ⟨rfl,_,Eq.trans (World.drewN_drewN _ _ _) (congrArg (World.drewN _) (Nat.add_assoc _ _ _))⟩))))
                  go_meet
                  case rel=>exact ⟨_,(!t194),(by first|rfl|(simp;done)|(simp [*];done)),H',⟨by have:=HK1.out;have:=HJ5.out;first|omega|exact Nat.le_refl _⟩,⟨by (with_reducible repeat (first|apply Kd.R_alloc|apply Kd.R_drewN|apply Kd.R_drew));exact HO_7.out⟩,⟨by (with_reducible repeat (first|apply Kd.R_alloc|apply Kd.R_drewN|apply Kd.R_drew));exact HO_8.out⟩,⟨by (with_reducible repeat first|apply blk_drewN|apply blk_drew|apply blk_alloc);exact BK185.out⟩,⟨by repeat (first|(with_reducible first|exact HB.out|apply below_alloc|apply pw_below_drewN|apply below_drew1|refine below_set ?_ GE185.out)|exact HB.out)⟩⟩
                ·rw [if_neg c30] at H
                 have c30b0 : ((wrap64 ((wrap64 ((wrap64 (rd (rd_L1 l0_0 x1_1) 1)) * 256)) + (wrap64 (rd (rd_L1 l0_0 x1_1) 2)))) == 0) = false:=beq_eq_false_iff_ne.mpr c30
                 have c30b1 : ((wrap64 ((wrap64 ((wrap64 (rd (rd_L1 l0_0 x1_1) 1)) * 256)) + (wrap64 (rd (rd_L1 l0_0 x1_1) 2)))) != 0) = true:=bne_iff_ne.mpr c30
                 by_cases c37 : (wrap64 (rd (rd_L1 l0_0 x1_1) 3)) = 124
                 ·rw [if_pos c37] at H
                  have c37b0 : ((wrap64 (rd (rd_L1 l0_0 x1_1) 3)) == 124) = true:=beq_iff_eq.mpr c37
                  have c37b1 : ((wrap64 (rd (rd_L1 l0_0 x1_1) 3)) != 124) = false:=bne_eq_false_iff_eq.mpr c37
                  clear c37
                  by_cases c38 : (wrap64 (rd (rd_L1 l0_0 x1_1) 3)) = 0
                  ·rw [if_pos c38] at H
                   have c38b0 : ((wrap64 (rd (rd_L1 l0_0 x1_1) 3)) == 0) = true:=beq_iff_eq.mpr c38
                   have c38b1 : ((wrap64 (rd (rd_L1 l0_0 x1_1) 3)) != 0) = false:=bne_eq_false_iff_eq.mpr c38
                   clear c38
                   by_cases c39 : (x8_1.length : Int) > 0
                   ·rw [if_pos c39] at H
                    have c39b0 : decide (0 < (x8_1.length : Int)) = true:=decide_eq_true c39
                    have c39b1 : decide (0 < x8_1.length) = true:=decide_eq_true (by omega)
                    clear c39
                    have H':=Aside0.mk H
                    clear H
                    have p192 : 0 ≤ (0 : Int):=(by omega)
                    have q192 : 0 < ((rd_L1 l0_0 x1_1).length : Int):=of_decide_eq_true (by assumption)
                    obtain ⟨ad192,e192,hx192_0⟩:=Kd.at_int HR188_0.out 0 p192 q192
                    obtain rfl : ad189 = ad192:=(by injection e192)
                    have qi192 : (0 < (rd_L1 l0_0 x1_1).length) = True:=eq_true (by omega)
                    (try rw [show ((0 : Int)).toNat = 0 from rfl] at hx192_0)
                    (try rw [Addr.add_zero'] at hx192_0)
                    (try replace hx192_0:=(HB.out.cell (World.block_lt_of_cell? w _ hx192_0)).trans hx192_0)
                    replace p192:=eq_true p192
                    replace q192:=eq_true q192
                    obtain ⟨Ao40,co40,eo40⟩:=Kd.R_slice HO_8.out
                    subst eo40
                    go_wp2
                    repeat (go_quiet (fail);try go_wp2)
                    go_meet
                    case rel=>exact ⟨_,(true),(by first|rfl|(simp;done)|(simp [*];done)),H',⟨by have:=HK1.out;have:=HJ5.out;first|omega|exact Nat.le_refl _⟩,⟨by (with_reducible repeat (first|apply Kd.R_alloc|apply Kd.R_drewN|apply Kd.R_drew));exact HO_7.out⟩,⟨by (with_reducible repeat (first|apply Kd.R_alloc|apply Kd.R_drewN|apply Kd.R_drew));exact HO_8.out⟩,⟨by (with_reducible repeat first|apply blk_drewN|apply blk_drew|apply blk_alloc);exact BK185.out⟩,⟨by repeat (first|(with_reducible first|exact HB.out|apply below_alloc|apply pw_below_drewN|apply below_drew1|refine below_set ?_ GE185.out)|exact HB.out)⟩⟩
                   ·rw [if_neg c39] at H
                    have c39b0 : decide (0 < (x8_1.length : Int)) = false:=decide_eq_false c39
                    have c39b1 : decide (0 < x8_1.length) = false:=decide_eq_false (by omega)
                    clear c39
                    replace H:=Option.bind_eq_some_iff.mp H
                    obtain ⟨t195,A410,H⟩:=H
                    have A41:=Aside0.mk A410
                    clear A410
                    have H':=Aside0.mk H
                    clear H
                    have p192 : 0 ≤ (0 : Int):=(by omega)
                    have q192 : 0 < ((rd_L1 l0_0 x1_1).length : Int):=of_decide_eq_true (by assumption)
                    obtain ⟨ad192,e192,hx192_0⟩:=Kd.at_int HR188_0.out 0 p192 q192
                    obtain rfl : ad189 = ad192:=(by injection e192)
                    have qi192 : (0 < (rd_L1 l0_0 x1_1).length) = True:=eq_true (by omega)
                    (try rw [show ((0 : Int)).toNat = 0 from rfl] at hx192_0)
                    (try rw [Addr.add_zero'] at hx192_0)
                    (try replace hx192_0:=(HB.out.cell (World.block_lt_of_cell? w _ hx192_0)).trans hx192_0)
                    replace p192:=eq_true p192
                    replace q192:=eq_true q192
                    obtain ⟨Ao42,co42,eo42⟩:=Kd.R_slice HO_8.out
                    subst eo42
                    go_wp2_with (first|(go_at_call 57;(with_reducible refine (spec_l7Rest.calls kj5 _ _ (rd_L1 l0_0 x1_1) (wrap64 (4 + (wrap64 (rd (rd_L1 l0_0 x1_1) 3)))) t195 _ ?side1 ?side2 A41.out).mono ?_);(case side1=>repeat (first|exact (Kd.C_below HR188_0.out HB.out)|(with_reducible first|apply Kd.C_alloc|apply Kd.C_drewN|apply Kd.C_drew)));(case side2=>exact HC188_0.out);rintro e w' ⟨rfl,⟨nd,rfl⟩⟩;(try first|exact ⟨rfl,_,World.drewN_drewN _ _ _⟩|exact ⟨rfl,_,Eq.trans (World.drewN_drewN _ _ _) (congrArg (World.drewN _) (Nat.add_assoc _ _ _))⟩)))
                    have hwq : ∀ n,IntKind.i64.wrap n = wrap64 n:=fun n=>by rw [IntKind.wrap_i64];unfold wrap64;first|rfl|omega
                    repeat (go_quiet (first|(go_at_call 57;(with_reducible refine (spec_l7Rest.calls kj5 _ _ (rd_L1 l0_0 x1_1) (wrap64 (4 + (wrap64 (rd (rd_L1 l0_0 x1_1) 3)))) t195 _ ?side1 ?side2 A41.out).mono ?_);(case side1=>repeat (first|exact (Kd.C_below HR188_0.out HB.out)|(with_reducible first|apply Kd.C_alloc|apply Kd.C_drewN|apply Kd.C_drew)));(case side2=>exact HC188_0.out);rintro e w' ⟨rfl,⟨nd,rfl⟩⟩;(try first|exact ⟨rfl,_,World.drewN_drewN _ _ _⟩|exact ⟨rfl,_,Eq.trans (World.drewN_drewN _ _ _) (congrArg (World.drewN _) (Nat.add_assoc _ _ _))⟩)));try go_wp2_with (first|(go_at_call 57;(with_reducible refine (spec_l7Rest.calls kj5 _ _ (rd_L1 l0_0 x1_1) (wrap64 (4 + (wrap64 (rd (rd_L1 l0_0 x1_1) 3)))) t195 _ ?side1 ?side2 A41.out).mono ?_);(case side1=>repeat (first|exact (Kd.C_below HR188_0.out HB.out)|(with_reducible first|apply Kd.C_alloc|apply Kd.C_drewN|apply Kd.C_drew)));(case side2=>exact HC188_0.out);rintro e w' ⟨rfl,⟨nd,rfl⟩⟩;(try first|exact ⟨rfl,_,World.drewN_drewN _ _ _⟩|exact ⟨rfl,_,Eq.trans (World.drewN_drewN _ _ _) (congrArg (World.drewN _) (Nat.add_assoc _ _ _))⟩))))
                    go_meet
                    case rel=>exact ⟨_,(!t195),(by first|rfl|(simp;done)|(simp [*];done)),H',⟨by have:=HK1.out;have:=HJ5.out;first|omega|exact Nat.le_refl _⟩,⟨by (with_reducible repeat (first|apply Kd.R_alloc|apply Kd.R_drewN|apply Kd.R_drew));exact HO_7.out⟩,⟨by (with_reducible repeat (first|apply Kd.R_alloc|apply Kd.R_drewN|apply Kd.R_drew));exact HO_8.out⟩,⟨by (with_reducible repeat first|apply blk_drewN|apply blk_drew|apply blk_alloc);exact BK185.out⟩,⟨by repeat (first|(with_reducible first|exact HB.out|apply below_alloc|apply pw_below_drewN|apply below_drew1|refine below_set ?_ GE185.out)|exact HB.out)⟩⟩
                  ·rw [if_neg c38] at H
                   have c38b0 : ((wrap64 (rd (rd_L1 l0_0 x1_1) 3)) == 0) = false:=beq_eq_false_iff_ne.mpr c38
                   have c38b1 : ((wrap64 (rd (rd_L1 l0_0 x1_1) 3)) != 0) = true:=bne_iff_ne.mpr c38
                   replace H:=Option.bind_eq_some_iff.mp H
                   obtain ⟨t196,A430,H⟩:=H
                   have A43:=Aside0.mk A430
                   clear A430
                   have H':=Aside0.mk H
                   clear H
                   have p192 : 0 ≤ (0 : Int):=(by omega)
                   have q192 : 0 < ((rd_L1 l0_0 x1_1).length : Int):=of_decide_eq_true (by assumption)
                   obtain ⟨ad192,e192,hx192_0⟩:=Kd.at_int HR188_0.out 0 p192 q192
                   obtain rfl : ad189 = ad192:=(by injection e192)
                   have qi192 : (0 < (rd_L1 l0_0 x1_1).length) = True:=eq_true (by omega)
                   (try rw [show ((0 : Int)).toNat = 0 from rfl] at hx192_0)
                   (try rw [Addr.add_zero'] at hx192_0)
                   (try replace hx192_0:=(HB.out.cell (World.block_lt_of_cell? w _ hx192_0)).trans hx192_0)
                   replace p192:=eq_true p192
                   replace q192:=eq_true q192
                   go_wp2_with (first|(go_at_call 57;(with_reducible refine (spec_l7Rest.calls kj5 _ _ (rd_L1 l0_0 x1_1) (wrap64 (4 + (wrap64 (rd (rd_L1 l0_0 x1_1) 3)))) t196 _ ?side1 ?side2 A43.out).mono ?_);(case side1=>repeat (first|exact (Kd.C_below HR188_0.out HB.out)|(with_reducible first|apply Kd.C_alloc|apply Kd.C_drewN|apply Kd.C_drew)));(case side2=>exact HC188_0.out);rintro e w' ⟨rfl,⟨nd,rfl⟩⟩;(try first|exact ⟨rfl,_,World.drewN_drewN _ _ _⟩|exact ⟨rfl,_,Eq.trans (World.drewN_drewN _ _ _) (congrArg (World.drewN _) (Nat.add_assoc _ _ _))⟩)))
                   have hwq : ∀ n,IntKind.i64.wrap n = wrap64 n:=fun n=>by rw [IntKind.wrap_i64];unfold wrap64;first|rfl|omega
                   repeat (go_quiet (first|(go_at_call 57;(with_reducible refine (spec_l7Rest.calls kj5 _ _ (rd_L1 l0_0 x1_1) (wrap64 (4 + (wrap64 (rd (rd_L1 l0_0 x1_1) 3)))) t196 _ ?side1 ?side2 A43.out).mono ?_);(case side1=>repeat (first|exact (Kd.C_below HR188_0.out HB.out)|(with_reducible first|apply Kd.C_alloc|apply Kd.C_drewN|apply Kd.C_drew)));(case side2=>exact HC188_0.out);rintro e w' ⟨rfl,⟨nd,rfl⟩⟩;(try first|exact ⟨rfl,_,World.drewN_drewN _ _ _⟩|exact ⟨rfl,_,Eq.trans (World.drewN_drewN _ _ _) (congrArg (World.drewN _) (Nat.add_assoc _ _ _))⟩)));try go_wp2_with (first|(go_at_call 57;(with_reducible refine (spec_l7Rest.calls kj5 _ _ (rd_L1 l0_0 x1_1) (wrap64 (4 + (wrap64 (rd (rd_L1 l0_0 x1_1) 3)))) t196 _ ?side1 ?side2 A43.out).mono ?_);(case side1=>repeat (first|exact (Kd.C_below HR188_0.out HB.out)|(with_reducible first|apply Kd.C_alloc|apply Kd.C_drewN|apply Kd.C_drew)));(case side2=>exact HC188_0.out);rintro e w' ⟨rfl,⟨nd,rfl⟩⟩;(try first|exact ⟨rfl,_,World.drewN_drewN _ _ _⟩|exact ⟨rfl,_,Eq.trans (World.drewN_drewN _ _ _) (congrArg (World.drewN _) (Nat.add_assoc _ _ _))⟩))))
                   go_meet
                   case rel=>exact ⟨_,(!t196),(by first|rfl|(simp;done)|(simp [*];done)),H',⟨by have:=HK1.out;have:=HJ5.out;first|omega|exact Nat.le_refl _⟩,⟨by (with_reducible repeat (first|apply Kd.R_alloc|apply Kd.R_drewN|apply Kd.R_drew));exact HO_7.out⟩,⟨by (with_reducible repeat (first|apply Kd.R_alloc|apply Kd.R_drewN|apply Kd.R_drew));exact HO_8.out⟩,⟨by (with_reducible repeat first|apply blk_drewN|apply blk_drew|apply blk_alloc);exact BK185.out⟩,⟨by repeat (first|(with_reducible first|exact HB.out|apply below_alloc|apply pw_below_drewN|apply below_drew1|refine below_set ?_ GE185.out)|exact HB.out)⟩⟩
                 ·rw [if_neg c37] at H
                  have c37b0 : ((wrap64 (rd (rd_L1 l0_0 x1_1) 3)) == 124) = false:=beq_eq_false_iff_ne.mpr c37
                  have c37b1 : ((wrap64 (rd (rd_L1 l0_0 x1_1) 3)) != 124) = true:=bne_iff_ne.mpr c37
                  have H':=Aside0.mk H
                  clear H
                  have p192 : 0 ≤ (0 : Int):=(by omega)
                  have q192 : 0 < ((rd_L1 l0_0 x1_1).length : Int):=of_decide_eq_true (by assumption)
                  obtain ⟨ad192,e192,hx192_0⟩:=Kd.at_int HR188_0.out 0 p192 q192
                  obtain rfl : ad189 = ad192:=(by injection e192)
                  have qi192 : (0 < (rd_L1 l0_0 x1_1).length) = True:=eq_true (by omega)
                  (try rw [show ((0 : Int)).toNat = 0 from rfl] at hx192_0)
                  (try rw [Addr.add_zero'] at hx192_0)
                  (try replace hx192_0:=(HB.out.cell (World.block_lt_of_cell? w _ hx192_0)).trans hx192_0)
                  replace p192:=eq_true p192
                  replace q192:=eq_true q192
                  go_wp2
                  repeat (go_quiet (fail);try go_wp2)
                  go_meet
                  case rel=>exact ⟨_,(true),(by first|rfl|(simp;done)|(simp [*];done)),H',⟨by have:=HK1.out;have:=HJ5.out;first|omega|exact Nat.le_refl _⟩,⟨by (with_reducible repeat (first|apply Kd.R_alloc|apply Kd.R_drewN|apply Kd.R_drew));exact HO_7.out⟩,⟨by (with_reducible repeat (first|apply Kd.R_alloc|apply Kd.R_drewN|apply Kd.R_drew));exact HO_8.out⟩,⟨by (with_reducible repeat first|apply blk_drewN|apply blk_drew|apply blk_alloc);exact BK185.out⟩,⟨by repeat (first|(with_reducible first|exact HB.out|apply below_alloc|apply pw_below_drewN|apply below_drew1|refine below_set ?_ GE185.out)|exact HB.out)⟩⟩
              ·rw [if_neg c28] at H
               have c28b0 : ((rd (rd_L1 l0_0 x1_1) 0) == 82) = false:=beq_eq_false_iff_ne.mpr c28
               have c28b1 : ((rd (rd_L1 l0_0 x1_1) 0) != 82) = true:=bne_iff_ne.mpr c28
               have H':=Aside0.mk H
               clear H
               have p192 : 0 ≤ (0 : Int):=(by omega)
               have q192 : 0 < ((rd_L1 l0_0 x1_1).length : Int):=of_decide_eq_true (by assumption)
               obtain ⟨ad192,e192,hx192_0⟩:=Kd.at_int HR188_0.out 0 p192 q192
               obtain rfl : ad189 = ad192:=(by injection e192)
               have qi192 : (0 < (rd_L1 l0_0 x1_1).length) = True:=eq_true (by omega)
               (try rw [show ((0 : Int)).toNat = 0 from rfl] at hx192_0)
               (try rw [Addr.add_zero'] at hx192_0)
               (try replace hx192_0:=(HB.out.cell (World.block_lt_of_cell? w _ hx192_0)).trans hx192_0)
               replace p192:=eq_true p192
               replace q192:=eq_true q192
               go_wp2
               repeat (go_quiet (fail);try go_wp2)
               go_meet
               case rel=>exact ⟨_,(true),(by first|rfl|(simp;done)|(simp [*];done)),H',⟨by have:=HK1.out;have:=HJ5.out;first|omega|exact Nat.le_refl _⟩,⟨by (with_reducible repeat (first|apply Kd.R_alloc|apply Kd.R_drewN|apply Kd.R_drew));exact HO_7.out⟩,⟨by (with_reducible repeat (first|apply Kd.R_alloc|apply Kd.R_drewN|apply Kd.R_drew));exact HO_8.out⟩,⟨by (with_reducible repeat first|apply blk_drewN|apply blk_drew|apply blk_alloc);exact BK185.out⟩,⟨by repeat (first|(with_reducible first|exact HB.out|apply below_alloc|apply pw_below_drewN|apply below_drew1|refine below_set ?_ GE185.out)|exact HB.out)⟩⟩
             ·rw [if_neg c27] at H
              exact absurd H (by simp)
            case rest =>
             clear HC25
             try clear c1;try clear p1;try clear q1;try clear hx1;try clear qi1;try clear c2;try clear p2;try clear c3;try clear c4;try clear c4b0;try clear c4b1;try clear p6;try clear c8;try clear c10;try clear c18;try clear p18;try clear q18;try clear hx18;try clear qi18;try clear c19;try clear p19;try clear q19;try clear hx19;try clear qi19;try clear c20;try clear c20b0;try clear c21;try clear c21b0;try clear c22;try clear c22b0;try clear c22b1;try clear c23;try clear c23b0;try clear c23b1;try clear c24;try clear c24b0;try clear c24b1;try clear c27;try clear c27b0;try clear c27b1;try clear c28;try clear c28b0;try clear c28b1;try clear c29;try clear c29b0;try clear c30;try clear c30b0;try clear c30b1;try clear c31;try clear c31b0;try clear c31b1;try clear c32;try clear c32b0;try clear c32b1;try clear c37;try clear c37b0;try clear c37b1;try clear c38;try clear c38b0;try clear c38b1;try clear c39;try clear c39b0;try clear c39b1;try clear c40;try clear hcz11_0;try clear hcz11_1;try clear hcz11_2;try clear hcz11_3;try clear hcz14_0;try clear hcz14_1;try clear hcz14_2;try clear hcz14_3;try clear hcz17_0;try clear hcz17_1;try clear hcz17_2;try clear hcz17_3;try clear hcz26_0;try clear hcz26_1;try clear hcz26_2;try clear hcz26_3;try clear hfz11_0;try clear hfz11_1;try clear hfz11_2;try clear hfz11_3;try clear hfz14_0;try clear hfz14_1;try clear hfz14_2;try clear hfz14_3;try clear hfz17_0;try clear hfz17_1;try clear hfz17_2;try clear hfz17_3;try clear hfz26_0;try clear hfz26_1;try clear hfz26_2;try clear hfz26_3;try clear hx188_0;try clear hx189_0;try clear hx190_0;try clear hx191_0;try clear hx192_0;try clear p188;try clear p189;try clear p190;try clear p191;try clear p192;try clear p2;try clear q188;try clear q189;try clear q190;try clear q191;try clear q192
             obtain ⟨kq,x78_24,rfl,HA,HJ24,HO_7,HO_8,BK185,HB⟩:=hcut
             cases kq with
             | zero=>exact absurd HA.out (by simp [spec_l7Record.j2])
             | succ kj24 =>
              have H:=HA.out
              clear HA
              simp only [spec_l7Record.j2] at H
              by_cases c44 : x78_24 = true
              ·subst c44
               rw [if_pos rfl] at H
               simp only [Option.some.injEq,Prod.mk.injEq] at H
               obtain ⟨rfl,rfl,rfl⟩:=H
               go_wp2
               repeat (go_quiet (fail);try go_wp2)
               go_ret3
               exact ⟨_,_,by first|rfl|(simp [*,errW_none,errW_some] <;> rfl),by first|exact Kd.R_nil _ _ _ _ _|exact Kd.N_nil _ _ _ _ _|exact Kd.V_nil _ _ _ _ _|exact Kd.Q_nil _ _ _ _ _|exact Kd.S_nil _ _ _ _ _,by first|exact Kd.R_nil _ _ _ _ _|exact Kd.N_nil _ _ _ _ _|exact Kd.V_nil _ _ _ _ _|exact Kd.Q_nil _ _ _ _ _|exact Kd.S_nil _ _ _ _ _,by repeat (first|(with_reducible first|exact HB.out|apply below_alloc|apply pw_below_drewN|apply below_drew1|refine below_set ?_ GE185.out)|exact HB.out)⟩
              ·replace c44:=Bool.eq_false_iff.mpr c44
               subst c44
               rw [if_neg (show ¬ (false = true) by decide)] at H
               by_cases c45 : 4 ≤ (wrap64 (4 + (wrap64 (rd (rd_L1 l0_0 x1_1) 3))))
               ·rw [if_pos c45] at H
                have c45b0:=eq_true c45
                have c45b1 : decide (4 ≤ (wrap64 (4 + (wrap64 (rd (rd_L1 l0_0 x1_1) 3))))) = true:=decide_eq_true c45
                by_cases c46 : (wrap64 (4 + (wrap64 (rd (rd_L1 l0_0 x1_1) 3)))) ≤ ((rd_L1 l0_0 x1_1).length : Int)
                ·rw [if_pos c46] at H
                 have c46b0:=eq_true c46
                 have c46b1 : decide ((wrap64 (4 + (wrap64 (rd (rd_L1 l0_0 x1_1) 3)))) ≤ ((rd_L1 l0_0 x1_1).length : Int)) = true:=decide_eq_true c46
                 by_cases c47 : x7_1.length + (((rd_L1 l0_0 x1_1).take ((wrap64 (4 + (wrap64 (rd (rd_L1 l0_0 x1_1) 3)))) : Int).toNat).drop 4).length < 140737488355328
                 ·rw [if_pos c47] at H
                  have LMc47:=Aside0.mk c47
                  clear c47
                  obtain ⟨y198,hy198⟩ : ∃ y_ : List Int,y_ = (x7_1 ++ (((rd_L1 l0_0 x1_1).take ((wrap64 (4 + (wrap64 (rd (rd_L1 l0_0 x1_1) 3)))) : Int).toNat).drop 4)):=⟨_,rfl⟩
                  replace H : (if x8_1.length < 17592186044416 then (spec_l7Record.l0 kj24 (wrap64 ((wrap64 ((wrap64 (rd (rd_L1 l0_0 x1_1) 1)) * 256)) + (wrap64 (rd (rd_L1 l0_0 x1_1) 2)))) y198 (x8_1 ++ [x1_1]) l0_0 l0_1 l0_2 l0_3) else (none)) = some (r1,r2,r3):=by first|(rw [hy198];with_reducible exact H)|(have H2_:=(Option.bind_some _ _).symm.trans H;rw [hy198];with_reducible exact H2_)|(have H2_:=(Option.bind_some _ _).symm.trans H;with_reducible exact H2_)|with_reducible exact H|(rw [hy198];exact H)|exact H
                  have Ny198:=Aside0.mk hy198
                  clear hy198
                  by_cases c48 : x8_1.length < 17592186044416
                  ·rw [if_pos c48] at H
                   have LMc48:=Aside0.mk c48
                   clear c48
                   obtain ⟨y201,hy201⟩ : ∃ y_ : List Int,y_ = (x8_1 ++ [x1_1]):=⟨_,rfl⟩
                   replace H : (spec_l7Record.l0 kj24 (wrap64 ((wrap64 ((wrap64 (rd (rd_L1 l0_0 x1_1) 1)) * 256)) + (wrap64 (rd (rd_L1 l0_0 x1_1) 2)))) y198 y201 l0_0 l0_1 l0_2 l0_3) = some (r1,r2,r3):=by first|(rw [hy201];with_reducible exact H)|(have H2_:=(Option.bind_some _ _).symm.trans H;rw [hy201];with_reducible exact H2_)|(have H2_:=(Option.bind_some _ _).symm.trans H;with_reducible exact H2_)|with_reducible exact H|(rw [hy201];exact H)|exact H
                   have Ny201:=Aside0.mk hy201
                   clear hy201
                   have H':=Aside0.mk H
                   clear H
                   obtain ⟨i049,hi049,_,hsz49,_⟩:=info_parts info5
                   obtain ⟨A49,hcut49,hA49,hC49⟩:=print_mid_of (P:=Try.prog) (Value.int .u8) 0 23 5 .i64 .i64 Try.underlying23 hi049 hsz49 (some ad189) c188_0 (rd_L1 l0_0 x1_1) 4 (wrap64 (4 + (wrap64 (rd (rd_L1 l0_0 x1_1) 3)))) (by omega) (by first|omega|exact of_decide_eq_true (by assumption)) (of_decide_eq_true (by assumption)) HC188_0.out
                   have HR197:=Aside0.mk (Kd.C_of_reads (h1:=fun _=>rfl) (hA49 _ (Kd.reads_of_C HR188_0.out)))
                   have HC197:=Aside0.mk hC49
                   clear hA49 hC49 hi049 hsz49
                   go_wp2_with (first|((with_reducible refine gate_builtin (b:=.append) (xs:=#[.tmp 79,.tmp 83]) rfl ?_);(try (refine gate_guard (by rfl) ?_;dsimp only));at_builtin;refine Kd.R_append_rows (Kd.int .u8) (w0:=w) w.heap.size rfl (.tmp 79) (.tmp 83) 23 5 (.int .u8 0) 1 rfl Try.underlying23 info5 rfl (by decide) (by omega) u7 x7_1 (((rd_L1 l0_0 x1_1).take ((wrap64 (4 + (wrap64 (rd (rd_L1 l0_0 x1_1) 3)))) : Int).toNat).drop 4) _ _ _ (fun _=>True) (fun _=>False) rfl rfl ?aO ?aR (fun _ _ h=>h) (fun _ h=>h.elim) ?aF ?aB ?aS ?aL ?_;(case aR=>first|(rw [← show (((rd_L1 l0_0 x1_1).take ((wrap64 (4 + (wrap64 (rd (rd_L1 l0_0 x1_1) 3)))) : Int).toNat).drop 4).length = ((wrap64 (4 + (wrap64 (rd (rd_L1 l0_0 x1_1) 3)))).toNat - 4) from (by rw [List.length_drop,List.length_take];have h_ : ((wrap64 (4 + (wrap64 (rd (rd_L1 l0_0 x1_1) 3)))) : Int) ≤ ((rd_L1 l0_0 x1_1).length : Int):=of_decide_eq_true (by assumption);omega)];repeat (first|exact (Kd.C_below HR197.out HB.out)|(with_reducible first|apply Kd.C_alloc|apply Kd.C_drewN|apply Kd.C_drew)))|(repeat (first|exact (Kd.C_below HR197.out HB.out)|(with_reducible first|apply Kd.C_alloc|apply Kd.C_drewN|apply Kd.C_drew))));(case aB=>exact (by repeat (first|(with_reducible first|exact HB.out|apply below_alloc|apply pw_below_drewN|apply below_drew1|refine below_set ?_ GE185.out)|exact HB.out)));(case aF=>exact (fun _ _=>trivial));(case aO=>exact (by (with_reducible repeat (first|apply Kd.R_alloc|apply Kd.R_drewN|apply Kd.R_drew));exact HO_7.out));(case aS=>exact (below_size (by repeat (first|(with_reducible first|exact HB.out|apply below_alloc|apply pw_below_drewN|apply below_drew1|refine below_set ?_ GE185.out)|exact HB.out))));(case aL=>have:=LMc47.out;have hlx_:=(show (((rd_L1 l0_0 x1_1).take ((wrap64 (4 + (wrap64 (rd (rd_L1 l0_0 x1_1) 3)))) : Int).toNat).drop 4).length = ((wrap64 (4 + (wrap64 (rd (rd_L1 l0_0 x1_1) 3)))).toNat - 4) from (by rw [List.length_drop,List.length_take];have h_ : ((wrap64 (4 + (wrap64 (rd (rd_L1 l0_0 x1_1) 3)))) : Int) ≤ ((rd_L1 l0_0 x1_1).length : Int):=of_decide_eq_true (by assumption);omega));omega);intro v199 w50 ho hb hg hat;rw [← Ny198.out] at ho;have n0_:=Aside0.mk (Kd.R_over' (by (with_reducible repeat (first|apply Kd.R_alloc|apply Kd.R_drewN|apply Kd.R_drew));exact HO_8.out) (Kd.R_typed (by (with_reducible repeat (first|apply Kd.R_alloc|apply Kd.R_drewN|apply Kd.R_drew));exact HO_7.out)) (by decide) hg);have n1_:=Aside0.mk (blk_grown (g:=gb185) (o:=.cells #[.slice (some ad188) l0_0.length c0_0,.slice A0_1 l0_1.length c0_1,.slice A0_2 l0_2.length c0_2,.slice A0_3 l0_3.length c0_3] 28 (0,0)) (by (with_reducible repeat first|apply blk_drewN|apply blk_drew|apply blk_alloc);exact BK185.out) hg (Kd.R_ne HO_7.out BK185.out (by decide)));have n2_:=Aside0.mk (hb);have n3_:=Aside0.mk (ho);clear HO_8;clear BK185;clear HB;clear HO_7;have HO_8:=n0_;have BK185:=n1_;have HB:=n2_;have HO200:=n3_;clear n0_ n1_ n2_ n3_;clear ho hb hg hat)|((with_reducible refine gate_builtin (b:=.append) (xs:=#[.tmp 85,.tmp 87]) rfl ?_);(try (refine gate_guard (by rfl) ?_;dsimp only));at_builtin;refine Kd.R_append (Kd.int .i64) (w0:=w) w.heap.size rfl (.tmp 85) (.tmp 87) 24 3 (.int .i64 0) 8 rfl Try.underlying24 info3 rfl (by decide) (by omega) u8 x8_1 x1_1 [.int .i64 x1_1] (fun _=>True) (fun _=>False) rfl rfl ?aP (fun _ hk=>hk.elim) ?aF ?aO ?aB ?aS ?aL ?_;(case aP=>exact rfl);(case aB=>exact (by repeat (first|(with_reducible first|exact HB.out|apply below_alloc|apply pw_below_drewN|apply below_drew1|refine below_set ?_ GE185.out)|exact HB.out)));(case aF=>exact (fun _ _=>trivial));(case aO=>exact (by (with_reducible repeat (first|apply Kd.R_alloc|apply Kd.R_drewN|apply Kd.R_drew));exact HO_8.out));(case aS=>exact (below_size (by repeat (first|(with_reducible first|exact HB.out|apply below_alloc|apply pw_below_drewN|apply below_drew1|refine below_set ?_ GE185.out)|exact HB.out))));(case aL=>have:=LMc48.out;omega);intro v202 w51 ho hb hg hat;rw [← Ny201.out] at ho;have n0_:=Aside0.mk (blk_grown (g:=gb185) (o:=.cells #[.slice (some ad188) l0_0.length c0_0,.slice A0_1 l0_1.length c0_1,.slice A0_2 l0_2.length c0_2,.slice A0_3 l0_3.length c0_3] 28 (0,0)) (by (with_reducible repeat first|apply blk_drewN|apply blk_drew|apply blk_alloc);exact BK185.out) hg (Kd.R_ne HO_8.out BK185.out (by decide)));have n1_:=Aside0.mk (Kd.R_over' (by (with_reducible repeat (first|apply Kd.R_alloc|apply Kd.R_drewN|apply Kd.R_drew));exact HO200.out) (Kd.R_typed (by (with_reducible repeat (first|apply Kd.R_alloc|apply Kd.R_drewN|apply Kd.R_drew));exact HO_8.out)) (by decide) hg);have n2_:=Aside0.mk (hb);have n3_:=Aside0.mk (ho);clear BK185;clear HO200;clear HB;clear HO_8;have BK185:=n0_;have HO200:=n1_;have HB:=n2_;have HO203:=n3_;clear n0_ n1_ n2_ n3_;clear ho hb hg hat))
                   have hwq : ∀ n,IntKind.i64.wrap n = wrap64 n:=fun n=>by rw [IntKind.wrap_i64];unfold wrap64;first|rfl|omega
                   repeat (go_quiet (first|((with_reducible refine gate_builtin (b:=.append) (xs:=#[.tmp 79,.tmp 83]) rfl ?_);(try (refine gate_guard (by rfl) ?_;dsimp only));at_builtin;refine Kd.R_append_rows (Kd.int .u8) (w0:=w) w.heap.size rfl (.tmp 79) (.tmp 83) 23 5 (.int .u8 0) 1 rfl Try.underlying23 info5 rfl (by decide) (by omega) u7 x7_1 (((rd_L1 l0_0 x1_1).take ((wrap64 (4 + (wrap64 (rd (rd_L1 l0_0 x1_1) 3)))) : Int).toNat).drop 4) _ _ _ (fun _=>True) (fun _=>False) rfl rfl ?aO ?aR (fun _ _ h=>h) (fun _ h=>h.elim) ?aF ?aB ?aS ?aL ?_;(case aR=>first|(rw [← show (((rd_L1 l0_0 x1_1).take ((wrap64 (4 + (wrap64 (rd (rd_L1 l0_0 x1_1) 3)))) : Int).toNat).drop 4).length = ((wrap64 (4 + (wrap64 (rd (rd_L1 l0_0 x1_1) 3)))).toNat - 4) from (by rw [List.length_drop,List.length_take];have h_ : ((wrap64 (4 + (wrap64 (rd (rd_L1 l0_0 x1_1) 3)))) : Int) ≤ ((rd_L1 l0_0 x1_1).length : Int):=of_decide_eq_true (by assumption);omega)];repeat (first|exact (Kd.C_below HR197.out HB.out)|(with_reducible first|apply Kd.C_alloc|apply Kd.C_drewN|apply Kd.C_drew)))|(repeat (first|exact (Kd.C_below HR197.out HB.out)|(with_reducible first|apply Kd.C_alloc|apply Kd.C_drewN|apply Kd.C_drew))));(case aB=>exact (by repeat (first|(with_reducible first|exact HB.out|apply below_alloc|apply pw_below_drewN|apply below_drew1|refine below_set ?_ GE185.out)|exact HB.out)));(case aF=>exact (fun _ _=>trivial));(case aO=>exact (by (with_reducible repeat (first|apply Kd.R_alloc|apply Kd.R_drewN|apply Kd.R_drew));exact HO_7.out));(case aS=>exact (below_size (by repeat (first|(with_reducible first|exact HB.out|apply below_alloc|apply pw_below_drewN|apply below_drew1|refine below_set ?_ GE185.out)|exact HB.out))));(case aL=>have:=LMc47.out;have hlx_:=(show (((rd_L1 l0_0 x1_1).take ((wrap64 (4 + (wrap64 (rd (rd_L1 l0_0 x1_1) 3)))) : Int).toNat).drop 4).length = ((wrap64 (4 + (wrap64 (rd (rd_L1 l0_0 x1_1) 3)))).toNat - 4) from (by rw [List.length_drop,List.length_take];have h_ : ((wrap64 (4 + (wrap64 (rd (rd_L1 l0_0 x1_1) 3)))) : Int) ≤ ((rd_L1 l0_0 x1_1).length : Int):=of_decide_eq_true (by assumption);omega));omega);intro v199 w50 ho hb hg hat;rw [← Ny198.out] at ho;have n0_:=Aside0.mk (Kd.R_over' (by (with_reducible repeat (first|apply Kd.R_alloc|apply Kd.R_drewN|apply Kd.R_drew));exact HO_8.out) (Kd.R_typed (by (with_reducible repeat (first|apply Kd.R_alloc|apply Kd.R_drewN|apply Kd.R_drew));exact HO_7.out)) (by decide) hg);have n1_:=Aside0.mk (blk_grown (g:=gb185) (o:=.cells #[.slice (some ad188) l0_0.length c0_0,.slice A0_1 l0_1.length c0_1,.slice A0_2 l0_2.length c0_2,.slice A0_3 l0_3.length c0_3] 28 (0,0)) (by (with_reducible repeat first|apply blk_drewN|apply blk_drew|apply blk_alloc);exact BK185.out) hg (Kd.R_ne HO_7.out BK185.out (by decide)));have n2_:=Aside0.mk (hb);have n3_:=Aside0.mk (ho);clear HO_8;clear BK185;clear HB;clear HO_7;have HO_8:=n0_;have BK185:=n1_;have HB:=n2_;have HO200:=n3_;clear n0_ n1_ n2_ n3_;clear ho hb hg hat)|((with_reducible refine gate_builtin (b:=.append) (xs:=#[.tmp 85,.tmp 87]) rfl ?_);(try (refine gate_guard (by rfl) ?_;dsimp only));at_builtin;refine Kd.R_append (Kd.int .i64) (w0:=w) w.heap.size rfl (.tmp 85) (.tmp 87) 24 3 (.int .i64 0) 8 rfl Try.underlying24 info3 rfl (by decide) (by omega) u8 x8_1 x1_1 [.int .i64 x1_1] (fun _=>True) (fun _=>False) rfl rfl ?aP (fun _ hk=>hk.elim) ?aF ?aO ?aB ?aS ?aL ?_;(case aP=>exact rfl);(case aB=>exact (by repeat (first|(with_reducible first|exact HB.out|apply below_alloc|apply pw_below_drewN|apply below_drew1|refine below_set ?_ GE185.out)|exact HB.out)));(case aF=>exact (fun _ _=>trivial));(case aO=>exact (by (with_reducible repeat (first|apply Kd.R_alloc|apply Kd.R_drewN|apply Kd.R_drew));exact HO_8.out));(case aS=>exact (below_size (by repeat (first|(with_reducible first|exact HB.out|apply below_alloc|apply pw_below_drewN|apply below_drew1|refine below_set ?_ GE185.out)|exact HB.out))));(case aL=>have:=LMc48.out;omega);intro v202 w51 ho hb hg hat;rw [← Ny201.out] at ho;have n0_:=Aside0.mk (blk_grown (g:=gb185) (o:=.cells #[.slice (some ad188) l0_0.length c0_0,.slice A0_1 l0_1.length c0_1,.slice A0_2 l0_2.length c0_2,.slice A0_3 l0_3.length c0_3] 28 (0,0)) (by (with_reducible repeat first|apply blk_drewN|apply blk_drew|apply blk_alloc);exact BK185.out) hg (Kd.R_ne HO_8.out BK185.out (by decide)));have n1_:=Aside0.mk (Kd.R_over' (by (with_reducible repeat (first|apply Kd.R_alloc|apply Kd.R_drewN|apply Kd.R_drew));exact HO200.out) (Kd.R_typed (by (with_reducible repeat (first|apply Kd.R_alloc|apply Kd.R_drewN|apply Kd.R_drew));exact HO_8.out)) (by decide) hg);have n2_:=Aside0.mk (hb);have n3_:=Aside0.mk (ho);clear BK185;clear HO200;clear HB;clear HO_8;have BK185:=n0_;have HO200:=n1_;have HB:=n2_;have HO203:=n3_;clear n0_ n1_ n2_ n3_;clear ho hb hg hat));try go_wp2_with (first|((with_reducible refine gate_builtin (b:=.append) (xs:=#[.tmp 79,.tmp 83]) rfl ?_);(try (refine gate_guard (by rfl) ?_;dsimp only));at_builtin;refine Kd.R_append_rows (Kd.int .u8) (w0:=w) w.heap.size rfl (.tmp 79) (.tmp 83) 23 5 (.int .u8 0) 1 rfl Try.underlying23 info5 rfl (by decide) (by omega) u7 x7_1 (((rd_L1 l0_0 x1_1).take ((wrap64 (4 + (wrap64 (rd (rd_L1 l0_0 x1_1) 3)))) : Int).toNat).drop 4) _ _ _ (fun _=>True) (fun _=>False) rfl rfl ?aO ?aR (fun _ _ h=>h) (fun _ h=>h.elim) ?aF ?aB ?aS ?aL ?_;(case aR=>first|(rw [← show (((rd_L1 l0_0 x1_1).take ((wrap64 (4 + (wrap64 (rd (rd_L1 l0_0 x1_1) 3)))) : Int).toNat).drop 4).length = ((wrap64 (4 + (wrap64 (rd (rd_L1 l0_0 x1_1) 3)))).toNat - 4) from (by rw [List.length_drop,List.length_take];have h_ : ((wrap64 (4 + (wrap64 (rd (rd_L1 l0_0 x1_1) 3)))) : Int) ≤ ((rd_L1 l0_0 x1_1).length : Int):=of_decide_eq_true (by assumption);omega)];repeat (first|exact (Kd.C_below HR197.out HB.out)|(with_reducible first|apply Kd.C_alloc|apply Kd.C_drewN|apply Kd.C_drew)))|(repeat (first|exact (Kd.C_below HR197.out HB.out)|(with_reducible first|apply Kd.C_alloc|apply Kd.C_drewN|apply Kd.C_drew))));(case aB=>exact (by repeat (first|(with_reducible first|exact HB.out|apply below_alloc|apply pw_below_drewN|apply below_drew1|refine below_set ?_ GE185.out)|exact HB.out)));(case aF=>exact (fun _ _=>trivial));(case aO=>exact (by (with_reducible repeat (first|apply Kd.R_alloc|apply Kd.R_drewN|apply Kd.R_drew));exact HO_7.out));(case aS=>exact (below_size (by repeat (first|(with_reducible first|exact HB.out|apply below_alloc|apply pw_below_drewN|apply below_drew1|refine below_set ?_ GE185.out)|exact HB.out))));(case aL=>have:=LMc47.out;have hlx_:=(show (((rd_L1 l0_0 x1_1).take ((wrap64 (4 + (wrap64 (rd (rd_L1 l0_0 x1_1) 3)))) : Int).toNat).drop 4).length = ((wrap64 (4 + (wrap64 (rd (rd_L1 l0_0 x1_1) 3)))).toNat - 4) from (by rw [List.length_drop,List.length_take];have h_ : ((wrap64 (4 + (wrap64 (rd (rd_L1 l0_0 x1_1) 3)))) : Int) ≤ ((rd_L1 l0_0 x1_1).length : Int):=of_decide_eq_true (by assumption);omega));omega);intro v199 w50 ho hb hg hat;rw [← Ny198.out] at ho;have n0_:=Aside0.mk (Kd.R_over' (by (with_reducible repeat (first|apply Kd.R_alloc|apply Kd.R_drewN|apply Kd.R_drew));exact HO_8.out) (Kd.R_typed (by (with_reducible repeat (first|apply Kd.R_alloc|apply Kd.R_drewN|apply Kd.R_drew));exact HO_7.out)) (by decide) hg);have n1_:=Aside0.mk (blk_grown (g:=gb185) (o:=.cells #[.slice (some ad188) l0_0.length c0_0,.slice A0_1 l0_1.length c0_1,.slice A0_2 l0_2.length c0_2,.slice A0_3 l0_3.length c0_3] 28 (0,0)) (by (with_reducible repeat first|apply blk_drewN|apply blk_drew|apply blk_alloc);exact BK185.out) hg (Kd.R_ne HO_7.out BK185.out (by decide)));have n2_:=Aside0.mk (hb);have n3_:=Aside0.mk (ho);clear HO_8;clear BK185;clear HB;clear HO_7;have HO_8:=n0_;have BK185:=n1_;have HB:=n2_;have HO200:=n3_;clear n0_ n1_ n2_ n3_;clear ho hb hg hat)|((with_reducible refine gate_builtin (b:=.append) (xs:=#[.tmp 85,.tmp 87]) rfl ?_);(try (refine gate_guard (by rfl) ?_;dsimp only));at_builtin;refine Kd.R_append (Kd.int .i64) (w0:=w) w.heap.size rfl (.tmp 85) (.tmp 87) 24 3 (.int .i64 0) 8 rfl Try.underlying24 info3 rfl (by decide) (by omega) u8 x8_1 x1_1 [.int .i64 x1_1] (fun _=>True) (fun _=>False) rfl rfl ?aP (fun _ hk=>hk.elim) ?aF ?aO ?aB ?aS ?aL ?_;(case aP=>exact rfl);(case aB=>exact (by repeat (first|(with_reducible first|exact HB.out|apply below_alloc|apply pw_below_drewN|apply below_drew1|refine below_set ?_ GE185.out)|exact HB.out)));(case aF=>exact (fun _ _=>trivial));(case aO=>exact (by (with_reducible repeat (first|apply Kd.R_alloc|apply Kd.R_drewN|apply Kd.R_drew));exact HO_8.out));(case aS=>exact (below_size (by repeat (first|(with_reducible first|exact HB.out|apply below_alloc|apply pw_below_drewN|apply below_drew1|refine below_set ?_ GE185.out)|exact HB.out))));(case aL=>have:=LMc48.out;omega);intro v202 w51 ho hb hg hat;rw [← Ny201.out] at ho;have n0_:=Aside0.mk (blk_grown (g:=gb185) (o:=.cells #[.slice (some ad188) l0_0.length c0_0,.slice A0_1 l0_1.length c0_1,.slice A0_2 l0_2.length c0_2,.slice A0_3 l0_3.length c0_3] 28 (0,0)) (by (with_reducible repeat first|apply blk_drewN|apply blk_drew|apply blk_alloc);exact BK185.out) hg (Kd.R_ne HO_8.out BK185.out (by decide)));have n1_:=Aside0.mk (Kd.R_over' (by (with_reducible repeat (first|apply Kd.R_alloc|apply Kd.R_drewN|apply Kd.R_drew));exact HO200.out) (Kd.R_typed (by (with_reducible repeat (first|apply Kd.R_alloc|apply Kd.R_drewN|apply Kd.R_drew));exact HO_8.out)) (by decide) hg);have n2_:=Aside0.mk (hb);have n3_:=Aside0.mk (ho);clear BK185;clear HO200;clear HB;clear HO_8;have BK185:=n0_;have HO200:=n1_;have HB:=n2_;have HO203:=n3_;clear n0_ n1_ n2_ n3_;clear ho hb hg hat)))
                   go_roundg kj24
                   case measure=>have:=HK1.out;have:=HJ5.out;have:=HJ24.out;omega
                   case rel=>exact ⟨((wrap64 ((wrap64 ((wrap64 (rd (rd_L1 l0_0 x1_1) 1)) * 256)) + (wrap64 (rd (rd_L1 l0_0 x1_1) 2))))),(y198),(y201),(by first|rfl|(simp;done)|(simp [*];done)),H',⟨by have:=HK1.out;have:=HJ5.out;have:=HJ24.out;omega⟩,⟨by (with_reducible repeat (first|apply Kd.R_alloc|apply Kd.R_drewN|apply Kd.R_drew));exact HO200.out⟩,⟨by (with_reducible repeat (first|apply Kd.R_alloc|apply Kd.R_drewN|apply Kd.R_drew));exact HO203.out⟩,⟨by (with_reducible repeat first|apply blk_drewN|apply blk_drew|apply blk_alloc);exact BK185.out⟩,⟨by repeat (first|(with_reducible first|exact HB.out|apply below_alloc|apply pw_below_drewN|apply below_drew1|refine below_set ?_ GE185.out)|exact HB.out)⟩⟩
                  ·rw [if_neg c48] at H
                   exact absurd H (by simp)
                 ·rw [if_neg c47] at H
                  exact absurd H (by simp)
                ·rw [if_neg c46] at H
                 exact absurd H (by simp)
               ·rw [if_neg c45] at H
                exact absurd H (by simp)
           ·rw [if_neg c24] at H
            exact absurd H (by simp)
          ·rw [if_neg c23] at H
           exact absurd H (by simp)
         ·rw [if_neg c22] at H
          exact absurd H (by simp)
        ·rw [if_neg c21] at H
         exact absurd H (by simp)
       ·rw [if_neg c20] at H
        exact absurd H (by simp)

end Go.Proofs.Ytggnbbbhlnjleaa.PFnExactRecordAt
