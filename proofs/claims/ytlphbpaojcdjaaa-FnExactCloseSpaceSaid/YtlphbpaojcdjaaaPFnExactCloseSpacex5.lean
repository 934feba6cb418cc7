-- Written by a program of this session over the print of the kit (wip/t/patch_print.py).
import Derived.Test.YtlphbpaojcdjaaaPFnExactCloseSpacex0
import Derived.Test.YtlphbpaojcdjaaaPFnExactCloseSpacex4
namespace Go.Proofs.Ytlphbpaojcdjaaa.PFnExactCloseSpace
open Go.RowKit Go.Proofs.YtlphbpaojcdjaaaW.PrintWords Go.Proofs.YtlphbpaojcdjaaaW.PrintLast Go.Proofs.YtlphbpaojcdjaaaW.PrintMore
attribute [local go_sem] max2_int min2_int max_two min_two max_three min_three max_four min_four   -- for this text's walks alone
set_option linter.unusedVariables false
set_option linter.unusedSimpArgs false

/-! ### spec_l5Has: function 81 -/
def spec_l5Has.l0 : Nat → Int → List Int → Int → Int → Option (Bool)
 | 0,_,_,_,_=>none
 | k + 1,x1,x7,x8,x9=>if x9 < x8 then (if 0 ≤ x9 then (if x9 < (x7.length : Int) then (if (rd x7 x9) = x1 then (some true) else (spec_l5Has.l0 k x1 x7 x8 (wrap64 (x9 + 1)))) else (none)) else (none)) else (some false)
def spec_l5Has.f (k : Nat) (l0 : List Int) (a1 : Int) : Option (Bool):=spec_l5Has.l0 k a1 l0 (l0.length : Int) 0
theorem spec_l5Has.mono_l : ∀ k,(∀ y0 y1 y2 y3,LeO (spec_l5Has.l0 k y0 y1 y2 y3) (spec_l5Has.l0 (k + 1) y0 y1 y2 y3))
 | 0=>fun _ _ _ _ r h=>by simp [spec_l5Has.l0] at h
 | k + 1=>by
  have ih0:=spec_l5Has.mono_l k
  ·intro y0 y1 y2 y3
   unfold spec_l5Has.l0
   repeat' first
   | (with_reducible exact ih0 _ _ _ _)
   | (with_reducible exact LeO.refl _)
   | (with_reducible exact LeO.none _)
   | (with_reducible refine LeO.ite ?_ ?_)
   | (with_reducible refine LeO.bind ?_ (fun _=>?_))
   | exact ih0 _ _ _ _
   | exact LeO.none _
   | refine LeO.ite ?_ ?_
   | refine LeO.bind ?_ (fun _=>?_)
theorem spec_l5Has.mono : ∀ a0 a1 k,LeO (spec_l5Has.f k a0 a1) (spec_l5Has.f (k + 1) a0 a1):=by
 intro a0 a1 k
 have ih0:=spec_l5Has.mono_l k
 unfold spec_l5Has.f
 repeat' first
   | (with_reducible exact ih0 _ _ _ _)
   | (with_reducible exact LeO.refl _)
   | (with_reducible exact LeO.none _)
   | (with_reducible refine LeO.ite ?_ ?_)
   | (with_reducible refine LeO.bind ?_ (fun _=>?_))
   | exact ih0 _ _ _ _
   | exact LeO.none _
   | refine LeO.ite ?_ ?_
   | refine LeO.bind ?_ (fun _=>?_)
set_option maxHeartbeats 8000000 in
set_option maxRecDepth 100000 in
theorem spec_l5Has.calls (k : Nat) (A0 : Option Addr) (c0 : Nat) (l0 : List Int) (a1 : Int) (r : Bool) (w : World) (hr0 : Kd.C (Kd.int .i64) w A0 l0.length l0) (hc0 : l0.length ≤ c0) (h : spec_l5Has.f k l0 a1 = some r) :
  Calls Try.prog 81 #[.slice A0 l0.length c0,.int .i64 a1] w fun e w'=>e = .returned (.bool r)∧Drawn0 w w':=by
 have HR0:=Aside0.mk hr0
 have HC0:=Aside0.mk hc0
 clear hr0 hc0
 have H : (spec_l5Has.l0 k a1 l0 (l0.length : Int) 0) = some r:=h
 clear h
 have H':=Aside0.mk H
 clear H
 go_enter Try.func81,Try.ntmps81
 go_wp2
 go_loopg [9] k (fun kq v9 w'=>∃ (x9_1 : Int),v9 = .int .i64 x9_1∧Aside0 (spec_l5Has.l0 kq a1 l0 (l0.length : Int) x9_1 = some r)∧Aside0 (kq ≤ k)∧Drawn0 w w')
 case atStart=>exact ⟨(0),(by first|rfl|(simp;done)|(simp [*];done)),H',⟨Nat.le_refl _⟩,by repeat (first|exact Drawn0.refl _|apply Drawn0.step)⟩
 case round =>
  clear H'
  try clear p2
  obtain ⟨x9_1,rfl,HA,HK1,⟨m1,rfl⟩⟩:=hrel
  cases gk with
  | zero=>exact absurd HA.out (by simp [spec_l5Has.l0])
  | succ k1 =>
   have H:=HA.out
   clear HA
   simp only [spec_l5Has.l0] at H
   by_cases c3 : x9_1 < (l0.length : Int)
   ·rw [if_pos c3] at H
    have c3b0 : decide (x9_1 < (l0.length : Int)) = true:=decide_eq_true c3
    clear c3
    by_cases c4 : 0 ≤ x9_1
    ·rw [if_pos c4] at H
     have c4b0 : decide (0 ≤ x9_1) = true:=decide_eq_true c4
     clear c4
     by_cases c5 : x9_1 < (l0.length : Int)
     ·rw [if_pos c5] at H
      have c5b0 : decide (x9_1 < (l0.length : Int)) = true:=decide_eq_true c5
      clear c5
      by_cases c6 : (rd l0 x9_1) = a1
      ·rw [if_pos c6] at H
       have c6b0 : ((rd l0 x9_1) == a1) = true:=beq_iff_eq.mpr c6
       have c6b1 : ((rd l0 x9_1) != a1) = false:=bne_eq_false_iff_eq.mpr c6
       clear c6
       obtain rfl:=Option.some.inj H
       have p178 : 0 ≤ (x9_1 : Int):=of_decide_eq_true (by assumption)
       have q178 : x9_1 < (l0.length : Int):=of_decide_eq_true (by assumption)
       obtain ⟨ad178,e178,hx178_0⟩:=Kd.at_int HR0.out x9_1 p178 q178
       cases e178
       replace p178:=eq_true p178
       replace q178:=eq_true q178
       go_wp2
       go_ret
       exact ⟨by first|rfl|(simp;done)|(simp [*];done),by repeat (first|exact Drawn0.refl _|apply Drawn0.step)⟩
      ·rw [if_neg c6] at H
       have c6b0 : ((rd l0 x9_1) == a1) = false:=beq_eq_false_iff_ne.mpr c6
       have c6b1 : ((rd l0 x9_1) != a1) = true:=bne_iff_ne.mpr c6
       have H':=Aside0.mk H
       clear H
       have p178 : 0 ≤ (x9_1 : Int):=of_decide_eq_true (by assumption)
       have q178 : x9_1 < (l0.length : Int):=of_decide_eq_true (by assumption)
       obtain ⟨ad178,e178,hx178_0⟩:=Kd.at_int HR0.out x9_1 p178 q178
       cases e178
       replace p178:=eq_true p178
       replace q178:=eq_true q178
       go_wp2
       go_roundg k1
       case measure=>have:=HK1.out;omega
       case rel=>exact ⟨(wrap64 (x9_1 + 1)),(by first|rfl|(simp;done)|(simp [*];done)),H',⟨by have:=HK1.out;omega⟩,by repeat (first|exact Drawn0.refl _|apply Drawn0.step)⟩
     ·rw [if_neg c5] at H
      exact absurd H (by simp)
    ·rw [if_neg c4] at H
     exact absurd H (by simp)
   ·rw [if_neg c3] at H
    have c3b0 : decide (x9_1 < (l0.length : Int)) = false:=decide_eq_false c3
    clear c3
    obtain rfl:=Option.some.inj H
    go_wp2
    go_ret
    exact ⟨by first|rfl|(simp;done)|(simp [*];done),by repeat (first|exact Drawn0.refl _|apply Drawn0.step)⟩

/-! ### spec_l5Set: function 85 -/
def spec_l5Set.f (l0 : List Int) (a1 : Int) (a2 : Bool) : Option (List Int):=if a2 = true then (if 0 ≤ (wrap64 (Int.tdiv a1 8)) then (if (wrap64 (Int.tdiv a1 8)) < (l0.length : Int) then (if 0 ≤ (IntKind.u64.wrap (Int.tmod a1 8)) then (some (l0.set ((wrap64 (Int.tdiv a1 8)) : Int).toNat (Go.bits .or .u8 (rd l0 (wrap64 (Int.tdiv a1 8))) (shl .u8 1 (IntKind.u64.wrap (Int.tmod a1 8)))))) else (none)) else (none)) else (none)) else (if 0 ≤ (wrap64 (Int.tdiv a1 8)) then (if (wrap64 (Int.tdiv a1 8)) < (l0.length : Int) then (if 0 ≤ (IntKind.u64.wrap (Int.tmod a1 8)) then (some (l0.set ((wrap64 (Int.tdiv a1 8)) : Int).toNat (Go.bits .andNot .u8 (rd l0 (wrap64 (Int.tdiv a1 8))) (shl .u8 1 (IntKind.u64.wrap (Int.tmod a1 8)))))) else (none)) else (none)) else (none))
set_option maxHeartbeats 8000000 in
set_option maxRecDepth 100000 in
theorem spec_l5Set.calls (P0_ : Nat → Prop) (u9000_ : Value) (l0 : List Int) (a1 : Int) (a2 : Bool) (r : List Int) (w0 w : World) (hB : Below w0.heap.size w0 w) (ho0 : Kd.R (Kd.int .u8) 5 w w0.heap.size P0_ u9000_ l0) (h : spec_l5Set.f l0 a1 a2 = some r) :
  Calls Try.prog 85 #[u9000_,.int .i64 a1,.bool a2] w fun e w'=>e = .returned (.tuple #[])∧Kd.R (Kd.int .u8) 5 w' w0.heap.size (fun k_=>(P0_ k_ ∨ w.heap.size ≤ k_)) u9000_ r∧Below w0.heap.size w0 w'∧Kept w w' (fun k_=>P0_ k_):=by
 have HO0:=Aside0.mk (show Kd.R (Kd.int .u8) 5 w w0.heap.size (fun k_=>(P0_ k_ ∨ w.heap.size ≤ k_)) u9000_ l0 from Kd.R_mono ho0 (fun k_ hk=>(.inl hk)))
 have HK:=Aside0.mk (Kept.refl w (fun k_=>P0_ k_))
 have HW0:=Aside0.mk hB.size
 have HB:=Aside0.mk hB
 clear hB
 have H : (if a2 = true then (if 0 ≤ (wrap64 (Int.tdiv a1 8)) then (if (wrap64 (Int.tdiv a1 8)) < (l0.length : Int) then (if 0 ≤ (IntKind.u64.wrap (Int.tmod a1 8)) then (some (l0.set ((wrap64 (Int.tdiv a1 8)) : Int).toNat (Go.bits .or .u8 (rd l0 (wrap64 (Int.tdiv a1 8))) (shl .u8 1 (IntKind.u64.wrap (Int.tmod a1 8)))))) else (none)) else (none)) else (none)) else (if 0 ≤ (wrap64 (Int.tdiv a1 8)) then (if (wrap64 (Int.tdiv a1 8)) < (l0.length : Int) then (if 0 ≤ (IntKind.u64.wrap (Int.tmod a1 8)) then (some (l0.set ((wrap64 (Int.tdiv a1 8)) : Int).toNat (Go.bits .andNot .u8 (rd l0 (wrap64 (Int.tdiv a1 8))) (shl .u8 1 (IntKind.u64.wrap (Int.tmod a1 8)))))) else (none)) else (none)) else (none))) = some r:=h
 clear h
 by_cases c4 : a2 = true
 ·subst c4
  have H1 : (if 0 ≤ (wrap64 (Int.tdiv a1 8)) then (if (wrap64 (Int.tdiv a1 8)) < (l0.length : Int) then (if 0 ≤ (IntKind.u64.wrap (Int.tmod a1 8)) then (some (l0.set ((wrap64 (Int.tdiv a1 8)) : Int).toNat (Go.bits .or .u8 (rd l0 (wrap64 (Int.tdiv a1 8))) (shl .u8 1 (IntKind.u64.wrap (Int.tmod a1 8)))))) else (none)) else (none)) else (none)) = some r:=by rw [if_pos rfl] at H;exact H
  clear H
  have H:=H1
  clear H1
  obtain ⟨ji5,hji5⟩ : ∃ j_ : Int,(wrap64 (Int.tdiv a1 8)) = j_:=⟨_,rfl⟩
  replace H : (if 0 ≤ (ji5) then (if (ji5) < (l0.length : Int) then (if 0 ≤ (IntKind.u64.wrap (Int.tmod a1 8)) then (some (l0.set ((ji5) : Int).toNat (Go.bits .or .u8 (rd l0 (ji5)) (shl .u8 1 (IntKind.u64.wrap (Int.tmod a1 8)))))) else (none)) else (none)) else (none)) = some r:=by first|(rw [hji5] at H;exact H)|(simp only [hji5] at H ⊢;exact H)
  have hji5w : (IntKind.i64.wrap (Int.tdiv a1 8)) = ji5:=(i64_w _).trans hji5
  by_cases c6 : 0 ≤ (ji5)
  ·rw [if_pos c6] at H
   have c6b0 : decide (0 ≤ (ji5)) = true:=decide_eq_true c6
   clear c6
   by_cases c7 : (ji5) < (l0.length : Int)
   ·rw [if_pos c7] at H
    have c7b0 : decide ((ji5) < (l0.length : Int)) = true:=decide_eq_true c7
    clear c7
    obtain ⟨ji8,hji8⟩ : ∃ j_ : Int,(IntKind.u64.wrap (Int.tmod a1 8)) = j_:=⟨_,rfl⟩
    replace H : (if 0 ≤ (ji8) then (some (l0.set ((ji5) : Int).toNat (Go.bits .or .u8 (rd l0 (ji5)) (shl .u8 1 (ji8))))) else (none)) = some r:=by first|(rw [hji8] at H;exact H)|(simp only [hji8] at H ⊢;exact H)
    by_cases c9 : 0 ≤ (ji8)
    ·rw [if_pos c9] at H
     have c9b0:=eq_true c9
     have c9b1 : decide (0 ≤ (ji8)) = true:=decide_eq_true c9
     clear c9
     obtain ⟨ji10,hji10⟩ : ∃ j_ : Int,(shl .u8 1 (ji8)) = j_:=⟨_,rfl⟩
     replace H : (some (l0.set ((ji5) : Int).toNat (Go.bits .or .u8 (rd l0 (ji5)) (ji10)))) = some r:=by first|(rw [hji10] at H;exact H)|(simp only [hji10] at H ⊢;exact H)
     have hji10_ : (IntKind.u8.wrap (1 * 2 ^ min (ji8).toNat 8)) = ji10:=hji10
     have hji10z : (ji8) ≤ 8 → (IntKind.u8.wrap (1 * 2 ^ (ji8).toNat)) = ji10:=shl_small hji10
     have hji10u : (IntKind.u8.wrap (2 ^ min (ji8).toNat 8)) = ji10:=by have h_:=hji10_;rw [Int.one_mul] at h_;exact h_
     have hji10v : (ji8) ≤ 8 → (IntKind.u8.wrap (2 ^ (ji8).toNat)) = ji10:=fun hle_=>by have h_:=hji10z hle_;rw [Int.one_mul] at h_;exact h_
     obtain ⟨y180,hy180⟩ : ∃ y_ : List Int,y_ = (l0.set ((ji5) : Int).toNat (Go.bits .or .u8 (rd l0 (ji5)) (ji10))):=⟨_,rfl⟩
     replace H : (some y180) = some r:=by first|(rw [hy180];with_reducible exact H)|(have H2_:=(Option.bind_some _ _).symm.trans H;rw [hy180];with_reducible exact H2_)|(have H2_:=(Option.bind_some _ _).symm.trans H;with_reducible exact H2_)|with_reducible exact H|(rw [hy180];exact H)|exact H
     have Ny180:=Aside0.mk hy180
     clear hy180
     obtain rfl:=Option.some.inj H
     obtain ⟨Ao12,co12,eo12⟩:=Kd.R_slice HO0.out
     subst eo12
     have p179 : 0 ≤ ((ji5) : Int):=of_decide_eq_true (by assumption)
     have q179 : (ji5) < (l0.length : Int):=of_decide_eq_true (by assumption)
     obtain ⟨ad179,e179,hx179_0⟩:=Kd.at_int (Kd.R_reads' HO0.out).2.2 (ji5) p179 q179
     cases e179
     replace p179:=eq_true p179
     replace q179:=eq_true q179
     have p11 : 0 ≤ ((ji5) : Int):=of_decide_eq_true (by assumption)
     have q11 : ((ji5) : Int) < ((l0.length : Int) : Int):=of_decide_eq_true (by assumption)
     obtain ⟨go11,co11,eo11,gb11,gl11,cl11,HG11⟩:=Kd.R_form HO0.out (by omega)
     (first|cases eo11|(injection eo11 with ea_ en_ ec_;(first|subst ea_|(injection ea_ with ea_;subst ea_));subst ec_;clear en_))
     have GB11:=Aside0.mk gb11
     have GG11:=Aside0.mk HG11
     clear gb11 gl11 HG11
     have HMgo11:=Aside0.mk (show (P0_ go11 ∨ w.heap.size ≤ go11) from (HO0.out.1 _ rfl))
     (first|simp only [add_plain] at hx179_0|skip)
     obtain ⟨hx11_0,hf11_0⟩:=Kd.R_celln 0 HO0.out ((ji5) : Int) p11 q11
     replace p11:=eq_true p11
     replace q11:=eq_true q11
     have HP13:=Kd.R_putg HO0.out ((ji5) : Int) (Go.bits .or .u8 (rd l0 (ji5)) (ji10))
     go_enter Try.func85,Try.ntmps85
     go_wp2_with (first|((with_reducible refine gate_store (t:=5) (p:=17) rfl ?_);refine store_event (t:=5) (p:=17) (v:=?vo_w14) (w1:=(w.setCell ⟨go11,((ji5) : Int).toNat,none⟩ (.int .u8 (Go.bits .or .u8 (rd l0 (ji5)) (ji10))))) ?hg ?ho ?hn ?hr ?_;(case ho=>rfl);(case hg=>rfl);(case hn=>rfl);(case hr=>first|(go_simp;done)|(go_simp;rfl));intro w14 hw;have hg : w.grownBy w14 (some go11):=(by rw [hw];exact HP13.2);have hp_ : Kd.R (Kd.int .u8) 5 w14 w0.heap.size (fun k_=>(P0_ k_ ∨ w.heap.size ≤ k_)) (.slice (some ⟨go11,0,none⟩) l0.length co12) y180:=(by rw [hw,Ny180.out];exact HP13.1);clear HP13;have n0_:=Aside0.mk (hp_);have n1_:=Aside0.mk ((by rw [hw];exact below_set (HB.out) GB11.out : Below w0.heap.size w0 w14));have n2_:=Aside0.mk (Kept.of_grown (S:=(fun k_=>P0_ k_)) hg (by repeat (first|(with_reducible first|exact HK.out|apply Kept.alloc|apply Kept.drewN|apply Kept.drew)|exact HK.out)) (fun k_ e_=>(HO0.out.1 k_ e_)));clear HO0;clear HB;clear HK;have HO0:=n0_;have HB:=n1_;have HK:=n2_;clear n0_ n1_ n2_;clear hg hw hp_))
     first|go_end0|((try simp only [Exit.inBlock,Exit.then]);refine bodyPost_ret (results_none rfl _ _ _) rfl ?_)
     exact ⟨by first|rfl|(simp [errW_none,errW_some] <;> rfl)|(simp only [← hji5,← hji8,← hji10];first|rfl|(simp [errW_none,errW_some] <;> rfl))|(simp [*,errW_none,errW_some] <;> rfl),by (with_reducible repeat (first|apply Kd.R_alloc|apply Kd.R_drewN|apply Kd.R_drew));exact HO0.out,by repeat (first|exact HB.out|apply below_alloc|apply pw_below_drewN|apply below_drew1),by repeat (first|(with_reducible first|exact HK.out|apply Kept.alloc|apply Kept.drewN|apply Kept.drew)|exact HK.out)⟩
    ·rw [if_neg c9] at H
     exact absurd H (by simp)
   ·rw [if_neg c7] at H
    exact absurd H (by simp)
  ·rw [if_neg c6] at H
   exact absurd H (by simp)
 ·replace c4:=Bool.eq_false_iff.mpr c4
  subst c4
  have H1 : (if 0 ≤ (wrap64 (Int.tdiv a1 8)) then (if (wrap64 (Int.tdiv a1 8)) < (l0.length : Int) then (if 0 ≤ (IntKind.u64.wrap (Int.tmod a1 8)) then (some (l0.set ((wrap64 (Int.tdiv a1 8)) : Int).toNat (Go.bits .andNot .u8 (rd l0 (wrap64 (Int.tdiv a1 8))) (shl .u8 1 (IntKind.u64.wrap (Int.tmod a1 8)))))) else (none)) else (none)) else (none)) = some r:=by rw [if_neg (show ¬ (false = true) by decide)] at H;exact H
  clear H
  have H:=H1
  clear H1
  obtain ⟨ji15,hji15⟩ : ∃ j_ : Int,(wrap64 (Int.tdiv a1 8)) = j_:=⟨_,rfl⟩
  replace H : (if 0 ≤ (ji15) then (if (ji15) < (l0.length : Int) then (if 0 ≤ (IntKind.u64.wrap (Int.tmod a1 8)) then (some (l0.set ((ji15) : Int).toNat (Go.bits .andNot .u8 (rd l0 (ji15)) (shl .u8 1 (IntKind.u64.wrap (Int.tmod a1 8)))))) else (none)) else (none)) else (none)) = some r:=by first|(rw [hji15] at H;exact H)|(simp only [hji15] at H ⊢;exact H)
  have hji15w : (IntKind.i64.wrap (Int.tdiv a1 8)) = ji15:=(i64_w _).trans hji15
  by_cases c16 : 0 ≤ (ji15)
  ·rw [if_pos c16] at H
   have c16b0 : decide (0 ≤ (ji15)) = true:=decide_eq_true c16
   clear c16
   by_cases c17 : (ji15) < (l0.length : Int)
   ·rw [if_pos c17] at H
    have c17b0 : decide ((ji15) < (l0.length : Int)) = true:=decide_eq_true c17
    clear c17
    obtain ⟨ji18,hji18⟩ : ∃ j_ : Int,(IntKind.u64.wrap (Int.tmod a1 8)) = j_:=⟨_,rfl⟩
    replace H : (if 0 ≤ (ji18) then (some (l0.set ((ji15) : Int).toNat (Go.bits .andNot .u8 (rd l0 (ji15)) (shl .u8 1 (ji18))))) else (none)) = some r:=by first|(rw [hji18] at H;exact H)|(simp only [hji18] at H ⊢;exact H)
    by_cases c19 : 0 ≤ (ji18)
    ·rw [if_pos c19] at H
     have c19b0:=eq_true c19
     have c19b1 : decide (0 ≤ (ji18)) = true:=decide_eq_true c19
     clear c19
     obtain ⟨ji20,hji20⟩ : ∃ j_ : Int,(shl .u8 1 (ji18)) = j_:=⟨_,rfl⟩
     replace H : (some (l0.set ((ji15) : Int).toNat (Go.bits .andNot .u8 (rd l0 (ji15)) (ji20)))) = some r:=by first|(rw [hji20] at H;exact H)|(simp only [hji20] at H ⊢;exact H)
     have hji20_ : (IntKind.u8.wrap (1 * 2 ^ min (ji18).toNat 8)) = ji20:=hji20
     have hji20z : (ji18) ≤ 8 → (IntKind.u8.wrap (1 * 2 ^ (ji18).toNat)) = ji20:=shl_small hji20
     have hji20u : (IntKind.u8.wrap (2 ^ min (ji18).toNat 8)) = ji20:=by have h_:=hji20_;rw [Int.one_mul] at h_;exact h_
     have hji20v : (ji18) ≤ 8 → (IntKind.u8.wrap (2 ^ (ji18).toNat)) = ji20:=fun hle_=>by have h_:=hji20z hle_;rw [Int.one_mul] at h_;exact h_
     obtain ⟨y182,hy182⟩ : ∃ y_ : List Int,y_ = (l0.set ((ji15) : Int).toNat (Go.bits .andNot .u8 (rd l0 (ji15)) (ji20))):=⟨_,rfl⟩
     replace H : (some y182) = some r:=by first|(rw [hy182];with_reducible exact H)|(have H2_:=(Option.bind_some _ _).symm.trans H;rw [hy182];with_reducible exact H2_)|(have H2_:=(Option.bind_some _ _).symm.trans H;with_reducible exact H2_)|with_reducible exact H|(rw [hy182];exact H)|exact H
     have Ny182:=Aside0.mk hy182
     clear hy182
     obtain rfl:=Option.some.inj H
     obtain ⟨Ao22,co22,eo22⟩:=Kd.R_slice HO0.out
     subst eo22
     have p181 : 0 ≤ ((ji15) : Int):=of_decide_eq_true (by assumption)
     have q181 : (ji15) < (l0.length : Int):=of_decide_eq_true (by assumption)
     obtain ⟨ad181,e181,hx181_0⟩:=Kd.at_int (Kd.R_reads' HO0.out).2.2 (ji15) p181 q181
     cases e181
     replace p181:=eq_true p181
     replace q181:=eq_true q181
     have p21 : 0 ≤ ((ji15) : Int):=of_decide_eq_true (by assumption)
     have q21 : ((ji15) : Int) < ((l0.length : Int) : Int):=of_decide_eq_true (by assumption)
     obtain ⟨go21,co21,eo21,gb21,gl21,cl21,HG21⟩:=Kd.R_form HO0.out (by omega)
     (first|cases eo21|(injection eo21 with ea_ en_ ec_;(first|subst ea_|(injection ea_ with ea_;subst ea_));subst ec_;clear en_))
     have GB21:=Aside0.mk gb21
     have GG21:=Aside0.mk HG21
     clear gb21 gl21 HG21
     have HMgo21:=Aside0.mk (show (P0_ go21 ∨ w.heap.size ≤ go21) from (HO0.out.1 _ rfl))
     (first|simp only [add_plain] at hx181_0|skip)
     obtain ⟨hx21_0,hf21_0⟩:=Kd.R_celln 0 HO0.out ((ji15) : Int) p21 q21
     replace p21:=eq_true p21
     replace q21:=eq_true q21
     have HP23:=Kd.R_putg HO0.out ((ji15) : Int) (Go.bits .andNot .u8 (rd l0 (ji15)) (ji20))
     go_enter Try.func85,Try.ntmps85
     go_wp2_with (first|((with_reducible refine gate_store (t:=5) (p:=28) rfl ?_);refine store_event (t:=5) (p:=28) (v:=?vo_w24) (w1:=(w.setCell ⟨go21,((ji15) : Int).toNat,none⟩ (.int .u8 (Go.bits .andNot .u8 (rd l0 (ji15)) (ji20))))) ?hg ?ho ?hn ?hr ?_;(case ho=>rfl);(case hg=>rfl);(case hn=>rfl);(case hr=>first|(go_simp;done)|(go_simp;rfl));intro w24 hw;have hg : w.grownBy w24 (some go21):=(by rw [hw];exact HP23.2);have hp_ : Kd.R (Kd.int .u8) 5 w24 w0.heap.size (fun k_=>(P0_ k_ ∨ w.heap.size ≤ k_)) (.slice (some ⟨go21,0,none⟩) l0.length co22) y182:=(by rw [hw,Ny182.out];exact HP23.1);clear HP23;have n0_:=Aside0.mk (hp_);have n1_:=Aside0.mk ((by rw [hw];exact below_set (HB.out) GB21.out : Below w0.heap.size w0 w24));have n2_:=Aside0.mk (Kept.of_grown (S:=(fun k_=>P0_ k_)) hg (by repeat (first|(with_reducible first|exact HK.out|apply Kept.alloc|apply Kept.drewN|apply Kept.drew)|exact HK.out)) (fun k_ e_=>(HO0.out.1 k_ e_)));clear HO0;clear HB;clear HK;have HO0:=n0_;have HB:=n1_;have HK:=n2_;clear n0_ n1_ n2_;clear hg hw hp_))
     first|go_end0|((try simp only [Exit.inBlock,Exit.then]);refine bodyPost_ret (results_none rfl _ _ _) rfl ?_)
     exact ⟨by first|rfl|(simp [errW_none,errW_some] <;> rfl)|(simp only [← hji15,← hji18,← hji20];first|rfl|(simp [errW_none,errW_some] <;> rfl))|(simp [*,errW_none,errW_some] <;> rfl),by (with_reducible repeat (first|apply Kd.R_alloc|apply Kd.R_drewN|apply Kd.R_drew));exact HO0.out,by repeat (first|exact HB.out|apply below_alloc|apply pw_below_drewN|apply below_drew1),by repeat (first|(with_reducible first|exact HK.out|apply Kept.alloc|apply Kept.drewN|apply Kept.drew)|exact HK.out)⟩
    ·rw [if_neg c19] at H
     exact absurd H (by simp)
   ·rw [if_neg c17] at H
    exact absurd H (by simp)
  ·rw [if_neg c16] at H
   exact absurd H (by simp)

/-! ### spec_l5Close: function 73 -/
mutual
def spec_l5Close.l0 : Nat → List Int → List Int → List Int → Int → Int → List (List Int) → List Int → List Int → List Int → Option ((List (S91)))
 | 0,_,_,_,_,_,_,_,_,_=>none
 | k + 1,x1,x5,x17,x18,x19,x184000,x184001,x184002,x184003=>if x19 < x18 then (if 0 ≤ x19 then (if x19 < (x17.length : Int) then ((spec_l5Set.f x5 (rd x17 x19) false).bind fun t189=>(spec_l5Close.l0 k x1 t189 x17 x18 (wrap64 (x19 + 1)) x184000 x184001 x184002 x184003)) else (none)) else (none)) else ((some (([] : List Int) : List Int)).bind fun y190=>(if y190.length + x1.length < 140737488355328 then (spec_l5Close.l1 k (([(⟨0,(y190 ++ x1)⟩ : S91),(⟨1,x5⟩ : S91)] : List (S91))) x184003 (x184003.length : Int) 0 x184000 x184001 x184002 x184003) else (none)))
def spec_l5Close.l1 : Nat → List (S91) → List Int → Int → Int → List (List Int) → List Int → List Int → List Int → Option ((List (S91)))
 | 0,_,_,_,_,_,_,_,_=>none
 | k + 1,x8,x35,x36,x37,x184000,x184001,x184002,x184003=>if x37 < x36 then (if 0 ≤ x37 then (if x37 < (x35.length : Int) then ((spec_l5Has.f k x184002 (rd x35 x37)).bind fun t200=>(if t200 = true then (spec_l5Close.l1 k x8 x35 x36 (wrap64 (x37 + 1)) x184000 x184001 x184002 x184003) else ((some (([] : List Int) : List Int)).bind fun y201=>(if 0 ≤ (rd x35 x37) then (if (rd x35 x37) < (x184000.length : Int) then (if y201.length + (rd_L1 x184000 (rd x35 x37)).length < 140737488355328 then (if x8.length < 4398046511104 then (spec_l5Close.l1 k (x8 ++ [(⟨rd x35 x37,(y201 ++ (rd_L1 x184000 (rd x35 x37)))⟩ : S91)]) x35 x36 (wrap64 (x37 + 1)) x184000 x184001 x184002 x184003) else (none)) else (none)) else (none)) else (none))))) else (none)) else (none)) else (some x8)
end
def spec_l5Close.f (k : Nat) (l0_0 : List (List Int)) (l0_1 : List Int) (l0_2 : List Int) (l0_3 : List Int) (l1 : List Int) : Option ((List (S91))):=if 128 ≤ 281474976710656 then (spec_l5Close.l0 k l1 (cpL (List.replicate 128 0) l0_1) l0_2 (l0_2.length : Int) 0 l0_0 l0_1 l0_2 l0_3) else (none)
theorem spec_l5Close.mono_l : ∀ k,(∀ y0 y1 y2 y3 y4 y5 y6 y7 y8,LeO (spec_l5Close.l0 k y0 y1 y2 y3 y4 y5 y6 y7 y8) (spec_l5Close.l0 (k + 1) y0 y1 y2 y3 y4 y5 y6 y7 y8))∧(∀ y0 y1 y2 y3 y4 y5 y6 y7,LeO (spec_l5Close.l1 k y0 y1 y2 y3 y4 y5 y6 y7) (spec_l5Close.l1 (k + 1) y0 y1 y2 y3 y4 y5 y6 y7))
 | 0=>⟨fun _ _ _ _ _ _ _ _ _ r h=>by simp [spec_l5Close.l0] at h,fun _ _ _ _ _ _ _ _ r h=>by simp [spec_l5Close.l1] at h⟩
 | k + 1=>by
  obtain ⟨ih0,ih1⟩:=spec_l5Close.mono_l k
  refine ⟨?_,?_⟩
  ·intro y0 y1 y2 y3 y4 y5 y6 y7 y8
   unfold spec_l5Close.l0
   repeat' first
   | (with_reducible exact ih0 _ _ _ _ _ _ _ _ _)
   | (with_reducible exact ih1 _ _ _ _ _ _ _ _)
   | (with_reducible exact spec_l5Has.mono _ _ _)
   | (with_reducible exact LeO.refl _)
   | (with_reducible exact LeO.none _)
   | (with_reducible refine LeO.ite ?_ ?_)
   | (with_reducible refine LeO.bind ?_ (fun _=>?_))
   | exact ih0 _ _ _ _ _ _ _ _ _
   | exact ih1 _ _ _ _ _ _ _ _
   | exact spec_l5Has.mono _ _ _
   | exact LeO.none _
   | refine LeO.ite ?_ ?_
   | refine LeO.bind ?_ (fun _=>?_)
  ·intro y0 y1 y2 y3 y4 y5 y6 y7
   unfold spec_l5Close.l1
   repeat' first
   | (with_reducible exact ih0 _ _ _ _ _ _ _ _ _)
   | (with_reducible exact ih1 _ _ _ _ _ _ _ _)
   | (with_reducible exact spec_l5Has.mono _ _ _)
   | (with_reducible exact LeO.refl _)
   | (with_reducible exact LeO.none _)
   | (with_reducible refine LeO.ite ?_ ?_)
   | (with_reducible refine LeO.bind ?_ (fun _=>?_))
   | exact ih0 _ _ _ _ _ _ _ _ _
   | exact ih1 _ _ _ _ _ _ _ _
   | exact spec_l5Has.mono _ _ _
   | exact LeO.none _
   | refine LeO.ite ?_ ?_
   | refine LeO.bind ?_ (fun _=>?_)
theorem spec_l5Close.mono : ∀ a0 a1 a2 a3 a4 k,LeO (spec_l5Close.f k a0 a1 a2 a3 a4) (spec_l5Close.f (k + 1) a0 a1 a2 a3 a4):=by
 intro a0 a1 a2 a3 a4 k
 obtain ⟨ih0,ih1⟩:=spec_l5Close.mono_l k
 unfold spec_l5Close.f
 repeat' first
   | (with_reducible exact ih0 _ _ _ _ _ _ _ _ _)
   | (with_reducible exact ih1 _ _ _ _ _ _ _ _)
   | (with_reducible exact spec_l5Has.mono _ _ _)
   | (with_reducible exact LeO.refl _)
   | (with_reducible exact LeO.none _)
   | (with_reducible refine LeO.ite ?_ ?_)
   | (with_reducible refine LeO.bind ?_ (fun _=>?_))
   | exact ih0 _ _ _ _ _ _ _ _ _
   | exact ih1 _ _ _ _ _ _ _ _
   | exact spec_l5Has.mono _ _ _
   | exact LeO.none _
   | refine LeO.ite ?_ ?_
   | refine LeO.bind ?_ (fun _=>?_)
set_option maxHeartbeats 8000000 in
set_option maxRecDepth 100000 in
theorem spec_l5Close.calls (k : Nat) (A0_0 : Option Addr) (c0_0 : Nat) (l0_0 : List (List Int)) (A0_1 : Option Addr) (c0_1 : Nat) (l0_1 : List Int) (A0_2 : Option Addr) (c0_2 : Nat) (l0_2 : List Int) (A0_3 : Option Addr) (c0_3 : Nat) (l0_3 : List Int) (A1 : Option Addr) (c1 : Nat) (l1 : List Int) (r : List (S91)) (w : World) (hr0_0 : Kd.C (Kd.slice 5 (Kd.int .u8)) w A0_0 l0_0.length l0_0) (hc0_0 : l0_0.length ≤ c0_0) (hr0_1 : Kd.C (Kd.int .u8) w A0_1 l0_1.length l0_1) (hc0_1 : l0_1.length ≤ c0_1) (hr0_2 : Kd.C (Kd.int .i64) w A0_2 l0_2.length l0_2) (hc0_2 : l0_2.length ≤ c0_2) (hr0_3 : Kd.C (Kd.int .i64) w A0_3 l0_3.length l0_3) (hc0_3 : l0_3.length ≤ c0_3) (hr1 : Kd.C (Kd.int .u8) w A1 l1.length l1) (hc1 : l1.length ≤ c1) (h : spec_l5Close.f k l0_0 l0_1 l0_2 l0_3 l1 = some r) :
  Calls Try.prog 73 #[.agg #[.slice A0_0 l0_0.length c0_0,.slice A0_1 l0_1.length c0_1,.slice A0_2 l0_2.length c0_2,.slice A0_3 l0_3.length c0_3],.slice A1 l1.length c1] w fun e w'=>∃ v0_ : Value,e = .returned (v0_)∧Kd.S k91 91 w' w.heap.size (fun _=>True) v0_ r∧Below w.heap.size w w':=by
 have hu29:=Try.underlying29
 have hu91:=Try.underlying91
 have HR0_0:=Aside0.mk hr0_0
 have HC0_0:=Aside0.mk hc0_0
 clear hr0_0 hc0_0
 have HR0_1:=Aside0.mk hr0_1
 have HC0_1:=Aside0.mk hc0_1
 clear hr0_1 hc0_1
 have HR0_2:=Aside0.mk hr0_2
 have HC0_2:=Aside0.mk hc0_2
 clear hr0_2 hc0_2
 have HR0_3:=Aside0.mk hr0_3
 have HC0_3:=Aside0.mk hc0_3
 clear hr0_3 hc0_3
 have HR1:=Aside0.mk hr1
 have HC1:=Aside0.mk hc1
 clear hr1 hc1
 have HB:=Aside0.mk (Below.refl w.heap.size w)
 have H : (if 128 ≤ 281474976710656 then (spec_l5Close.l0 k l1 (cpL (List.replicate 128 0) l0_1) l0_2 (l0_2.length : Int) 0 l0_0 l0_1 l0_2 l0_3) else (none)) = some r:=h
 clear h
 by_cases c3 : 128 ≤ 281474976710656
 ·rw [if_pos c3] at H
  have c3b0:=eq_true c3
  have c3b1 : decide (128 ≤ 281474976710656) = true:=decide_eq_true c3
  clear c3
  obtain ⟨y184,hy184⟩ : ∃ y_ : List Int,y_ = (List.replicate 128 0):=⟨_,rfl⟩
  replace H : (spec_l5Close.l0 k l1 (cpL y184 l0_1) l0_2 (l0_2.length : Int) 0 l0_0 l0_1 l0_2 l0_3) = some r:=by first|(rw [hy184];with_reducible exact H)|(have H2_:=(Option.bind_some _ _).symm.trans H;rw [hy184];with_reducible exact H2_)|(have H2_:=(Option.bind_some _ _).symm.trans H;with_reducible exact H2_)|with_reducible exact H|(rw [hy184];exact H)|exact H
  have Ny184:=Aside0.mk hy184
  clear hy184
  obtain ⟨y187,hy187⟩ : ∃ y_ : List Int,y_ = (cpL y184 l0_1):=⟨_,rfl⟩
  replace H : (spec_l5Close.l0 k l1 y187 l0_2 (l0_2.length : Int) 0 l0_0 l0_1 l0_2 l0_3) = some r:=by first|(rw [hy187];with_reducible exact H)|(have H2_:=(Option.bind_some _ _).symm.trans H;rw [hy187];with_reducible exact H2_)|(have H2_:=(Option.bind_some _ _).symm.trans H;with_reducible exact H2_)|with_reducible exact H|(rw [hy187];exact H)|exact H
  have Ny187:=Aside0.mk hy187
  clear hy187
  have H':=Aside0.mk H
  clear H
  go_enter Try.func73,Try.ntmps73
  go_wp2_with (first|((with_reducible refine gate_dst (N:=2) rfl ?_);refine box_event ?hg (N:=2) ?hd (cs:=#[.slice A0_0 l0_0.length c0_0,.slice A0_1 l0_1.length c0_1,.slice A0_2 l0_2.length c0_2,.slice A0_3 l0_3.length c0_3]) (t:=29) ?hr ?_;(case hd=>rfl);(case hg=>rfl);(case hr=>first|(go_simp;done)|(go_simp;rfl));intro gb183 hg w4 hbox hb;have n0_:=Aside0.mk (below_step (by repeat (first|exact HB.out|apply below_alloc|apply pw_below_drewN|apply below_drew1)) hb);have n1_:=Aside0.mk (hbox);have n2_:=Aside0.mk ((by rw [hg];exact (below_size (by repeat (first|exact HB.out|apply below_alloc|apply pw_below_drewN|apply below_drew1))) : w.heap.size ≤ gb183));have n3_:=Aside0.mk ((by rw [hg];exact (below_size (by repeat (first|exact HB.out|apply below_alloc|apply pw_below_drewN|apply below_drew1))) : w.heap.size ≤ gb183));clear HB;have HB:=n0_;have BK183:=n1_;have GW183:=n2_;have GE183:=n3_;clear n0_ n1_ n2_ n3_;clear hb hbox hg)|((with_reducible refine gate_dst (N:=11) rfl ?_);refine Kd.R_make (Kd.int .u8) _ 5 rfl (N:=11) rfl 23 _ _ rfl 128 rfl rfl Try.underlying23 (.int .u8 0) 1 info5 rfl (by decide) (by omega) 0 (ok:=fun _=>True) (okp:=fun _=>True) rfl (fun _ hk=>hk) trivial (by omega) (by omega) (Below.refl _ _) (Nat.le_refl _) ?_;intro v185 w5 ho6 hb hg_ hnew_;clear hg_ hnew_;(first|rw [← Ny184.out] at ho6|(simp only [Int.reduceToNat] at ho6;rw [← Ny184.out] at ho6));have n0_:=Aside0.mk (Kd.R_lower ho6 (below_size (by repeat (first|(with_reducible first|exact HB.out|apply below_alloc|apply pw_below_drewN|apply below_drew1|refine below_set ?_ GE183.out)|exact HB.out))));have n1_:=Aside0.mk (blk_below (g:=gb183) (o:=.cells #[.slice A0_0 l0_0.length c0_0,.slice A0_1 l0_1.length c0_1,.slice A0_2 l0_2.length c0_2,.slice A0_3 l0_3.length c0_3] 29 (0,0)) (by (with_reducible repeat first|apply blk_drewN|apply blk_drew|apply blk_alloc);exact BK183.out) hb);have n2_:=Aside0.mk (below_step (by repeat (first|(with_reducible first|exact HB.out|apply below_alloc|apply pw_below_drewN|apply below_drew1|refine below_set ?_ GE183.out)|exact HB.out)) hb);clear BK183;clear HB;have HO186:=n0_;have BK183:=n1_;have HB:=n2_;clear n0_ n1_ n2_;clear hb ho6;have hcz7_0 : w5.cell? ⟨gb183,0,none⟩ = some (.slice A0_0 l0_0.length c0_0):=(blk_cell BK183.out 0).trans rfl;have hcz7_1 : w5.cell? ⟨gb183,1,none⟩ = some (.slice A0_1 l0_1.length c0_1):=(blk_cell BK183.out 1).trans rfl;have hcz7_2 : w5.cell? ⟨gb183,2,none⟩ = some (.slice A0_2 l0_2.length c0_2):=(blk_cell BK183.out 2).trans rfl;have hcz7_3 : w5.cell? ⟨gb183,3,none⟩ = some (.slice A0_3 l0_3.length c0_3):=(blk_cell BK183.out 3).trans rfl;have hfz7_0:=blk_frozen BK183.out 0;have hfz7_1:=blk_frozen BK183.out 1;have hfz7_2:=blk_frozen BK183.out 2;have hfz7_3:=blk_frozen BK183.out 3;obtain ⟨Ao10,co10,eo10⟩:=Kd.R_slice HO186.out;subst eo10)|((with_reducible refine gate_builtin (b:=.copy) (xs:=#[.tmp 12,.tmp 14]) rfl ?_);refine R_copyint .u8 (w0:=w) w.heap.size rfl (.tmp 12) (.tmp 14) 23 23 5 rfl Try.underlying23 info5 Ao10 y184.length co10 y184 l0_1 _ _ _ (fun _=>True) rfl rfl ?cO ?cR ?cB ?cS ?_;(case cO=>exact (by (with_reducible repeat (first|apply Kd.R_alloc|apply Kd.R_drewN|apply Kd.R_drew));exact HO186.out));(case cR=>repeat (first|exact (Kd.C_below HR0_1.out HB.out)|(with_reducible first|apply Kd.C_alloc|apply Kd.C_drewN|apply Kd.C_drew)));(case cB=>exact (by repeat (first|(with_reducible first|exact HB.out|apply below_alloc|apply pw_below_drewN|apply below_drew1|refine below_set ?_ GE183.out)|exact HB.out)));(case cS=>exact (below_size (by repeat (first|(with_reducible first|exact HB.out|apply below_alloc|apply pw_below_drewN|apply below_drew1|refine below_set ?_ GE183.out)|exact HB.out))));intro w8 q9 ho hb hg;rw [← Ny187.out] at ho;have n0_:=Aside0.mk (blk_grown (g:=gb183) (o:=.cells #[.slice A0_0 l0_0.length c0_0,.slice A0_1 l0_1.length c0_1,.slice A0_2 l0_2.length c0_2,.slice A0_3 l0_3.length c0_3] 29 (0,0)) (by (with_reducible repeat first|apply blk_drewN|apply blk_drew|apply blk_alloc);exact BK183.out) hg (Kd.R_ne HO186.out BK183.out (by decide)));have n1_:=Aside0.mk (ho);have n2_:=Aside0.mk (hb);clear BK183;clear HO186;clear HB;have BK183:=n0_;have HO186:=n1_;have HB:=n2_;clear n0_ n1_ n2_;clear ho hb hg;have hcz11_0 : w8.cell? ⟨gb183,0,none⟩ = some (.slice A0_0 l0_0.length c0_0):=(blk_cell BK183.out 0).trans rfl;have hcz11_1 : w8.cell? ⟨gb183,1,none⟩ = some (.slice A0_1 l0_1.length c0_1):=(blk_cell BK183.out 1).trans rfl;have hcz11_2 : w8.cell? ⟨gb183,2,none⟩ = some (.slice A0_2 l0_2.length c0_2):=(blk_cell BK183.out 2).trans rfl;have hcz11_3 : w8.cell? ⟨gb183,3,none⟩ = some (.slice A0_3 l0_3.length c0_3):=(blk_cell BK183.out 3).trans rfl;have hfz11_0:=blk_frozen BK183.out 0;have hfz11_1:=blk_frozen BK183.out 1;have hfz11_2:=blk_frozen BK183.out 2;have hfz11_3:=blk_frozen BK183.out 3))
  go_loopg [19] k (fun kq v19 w'=>∃ (x5_1 : List Int) (x19_1 : Int),v19 = .int .i64 x19_1∧Aside0 (spec_l5Close.l0 kq l1 x5_1 l0_2 (l0_2.length : Int) x19_1 l0_0 l0_1 l0_2 l0_3 = some r)∧Aside0 (kq ≤ k)∧Aside0 (Kd.R (Kd.int .u8) 5 w' w.heap.size (fun _=>True) (.slice Ao10 y184.length co10) x5_1)∧Aside0 (w'.heap[gb183]? = some (.cells #[(.slice A0_0 l0_0.length c0_0),(.slice A0_1 l0_1.length c0_1),(.slice A0_2 l0_2.length c0_2),(.slice A0_3 l0_3.length c0_3)] 29 (0,0)))∧Aside0 (Below w.heap.size w w'))
  case atStart=>exact ⟨(y187),(0),(by first|rfl|(simp;done)|(simp [*];done)),H',⟨Nat.le_refl _⟩,⟨by (with_reducible repeat (first|apply Kd.R_alloc|apply Kd.R_drewN|apply Kd.R_drew));exact HO186.out⟩,⟨by (with_reducible repeat first|apply blk_drewN|apply blk_drew|apply blk_alloc);exact BK183.out⟩,⟨by repeat (first|(with_reducible first|exact HB.out|apply below_alloc|apply pw_below_drewN|apply below_drew1|refine below_set ?_ GE183.out)|exact HB.out)⟩⟩
  case round =>
   clear H'
   try clear c1;try clear p2;try clear c3;try clear c3b0;try clear c3b1;try clear c7;try clear q9;try clear hcz11_0;try clear hcz11_1;try clear hcz11_2;try clear hcz11_3;try clear hcz7_0;try clear hcz7_1;try clear hcz7_2;try clear hcz7_3;try clear hfz11_0;try clear hfz11_1;try clear hfz11_2;try clear hfz11_3;try clear hfz7_0;try clear hfz7_1;try clear hfz7_2;try clear hfz7_3;try clear q9
   obtain ⟨x5_1,x19_1,rfl,HA,HK1,HO_5,BK183,HB⟩:=hrel
   have hl5_1:=(Kd.R_reads' HO_5.out).1
   rw [hl5_1] at HO_5
   (try simp only [hl5_1])
   (try simp only [hl5_1] at BK183)
   cases gk with
   | zero=>exact absurd HA.out (by simp [spec_l5Close.l0])
   | succ k1 =>
    have H:=HA.out
    clear HA
    simp only [spec_l5Close.l0] at H
    by_cases c12 : x19_1 < (l0_2.length : Int)
    ·rw [if_pos c12] at H
     have c12b0 : decide (x19_1 < (l0_2.length : Int)) = true:=decide_eq_true c12
     clear c12
     by_cases c13 : 0 ≤ x19_1
     ·rw [if_pos c13] at H
      have c13b0 : decide (0 ≤ x19_1) = true:=decide_eq_true c13
      clear c13
      by_cases c14 : x19_1 < (l0_2.length : Int)
      ·rw [if_pos c14] at H
       have c14b0 : decide (x19_1 < (l0_2.length : Int)) = true:=decide_eq_true c14
       clear c14
       replace H:=Option.bind_eq_some_iff.mp H
       obtain ⟨t189,A150,H⟩:=H
       replace H : (spec_l5Close.l0 k1 l1 t189 l0_2 (l0_2.length : Int) (wrap64 (x19_1 + 1)) l0_0 l0_1 l0_2 l0_3) = some r:=H
       have A15:=Aside0.mk A150
       clear A150
       have H':=Aside0.mk H
       clear H
       have p188 : 0 ≤ (x19_1 : Int):=of_decide_eq_true (by assumption)
       have q188 : x19_1 < (l0_2.length : Int):=of_decide_eq_true (by assumption)
       obtain ⟨ad188,e188,hx188_0⟩:=Kd.at_int HR0_2.out x19_1 p188 q188
       cases e188
       (try replace hx188_0:=(HB.out.cell (World.block_lt_of_cell? w _ hx188_0)).trans hx188_0)
       replace p188:=eq_true p188
       replace q188:=eq_true q188
       go_wp2_with (first|((with_reducible refine gate_callee (f:=85) rfl ?_);refine goesL_ (some 25) rfl rfl Try.func85 (by kernel_rfl) rfl #[.slice Ao10 x5_1.length co10,.int .i64 (rd l0_2 x19_1),.bool false] rfl (by (try simp only [List.map_toArray,List.map_cons,List.map_nil]);first|done|rfl|(simp only [List.length_drop,List.length_take];rfl)) ?_;(with_reducible refine (spec_l5Set.calls (fun k_=>some k_ = (.slice Ao10 x5_1.length co10 : Value).ownBlock) (.slice Ao10 x5_1.length co10) x5_1 (rd l0_2 x19_1) false t189 w _ ?side1 ?side2 A15.out).mono ?_);(case side1=>repeat (first|(with_reducible first|exact HB.out|apply below_alloc|apply pw_below_drewN|apply below_drew1|refine below_set ?_ GE183.out)|exact HB.out));(case side2=>exact Kd.R_tight rfl HO_5.out);rintro e w16 ⟨rfl,hy0,hb,hkp⟩;refine ⟨_,rfl,?_⟩;have n0_:=Aside0.mk (Kd.R_reok rfl hy0 (fun k_ e_=>HO_5.out.1 k_ e_));have n1_:=Aside0.mk (blk_kept (g:=gb183) (o:=.cells #[.slice A0_0 l0_0.length c0_0,.slice A0_1 l0_1.length c0_1,.slice (some ad188) l0_2.length c0_2,.slice A0_3 l0_3.length c0_3] 29 (0,0)) (by (with_reducible repeat first|apply blk_drewN|apply blk_drew|apply blk_alloc);exact BK183.out) hkp (fun hs_=>(fun e_=>(Kd.R_ne HO_5.out BK183.out (by decide)) e_) hs_));have n2_:=Aside0.mk (hb);clear HO_5;clear BK183;clear HB;have HO_5:=n0_;have BK183:=n1_;have HB:=n2_;clear n0_ n1_ n2_;(try clear hb);(try clear hkp);(try clear hbx);(try clear hy0)))
       (try simp only [← hl5_1])
       go_roundg k1
       case measure=>have:=HK1.out;omega
       case rel=>exact ⟨(t189),(wrap64 (x19_1 + 1)),(by first|rfl|(simp;done)|(simp [*];done)),H',⟨by have:=HK1.out;omega⟩,⟨by (try simp only [hl5_1]);(with_reducible repeat (first|apply Kd.R_alloc|apply Kd.R_drewN|apply Kd.R_drew));exact HO_5.out⟩,⟨by (try simp only [hl5_1]);(with_reducible repeat first|apply blk_drewN|apply blk_drew|apply blk_alloc);exact BK183.out⟩,⟨by repeat (first|(with_reducible first|exact HB.out|apply below_alloc|apply pw_below_drewN|apply below_drew1|refine below_set ?_ GE183.out)|exact HB.out)⟩⟩
      ·rw [if_neg c14] at H
       exact absurd H (by simp)
     ·rw [if_neg c13] at H
      exact absurd H (by simp)
    ·rw [if_neg c12] at H
     have c12b0 : decide (x19_1 < (l0_2.length : Int)) = false:=decide_eq_false c12
     clear c12
     obtain ⟨y190,hy190⟩ : ∃ y_ : List Int,y_ = (([] : List Int)):=⟨_,rfl⟩
     replace H : (if y190.length + l1.length < 140737488355328 then (spec_l5Close.l1 k1 (([(⟨0,(y190 ++ l1)⟩ : S91),(⟨1,x5_1⟩ : S91)] : List (S91))) l0_3 (l0_3.length : Int) 0 l0_0 l0_1 l0_2 l0_3) else (none)) = some r:=by first|(rw [hy190];with_reducible exact H)|(have H2_:=(Option.bind_some _ _).symm.trans H;rw [hy190];with_reducible exact H2_)|(have H2_:=(Option.bind_some _ _).symm.trans H;with_reducible exact H2_)|with_reducible exact H|(rw [hy190];exact H)|exact H
     have Ny190:=Aside0.mk hy190
     clear hy190
     by_cases c17 : y190.length + l1.length < 140737488355328
     ·rw [if_pos c17] at H
      have LMc17:=Aside0.mk c17
      clear c17
      obtain ⟨y193,hy193⟩ : ∃ y_ : List Int,y_ = (y190 ++ l1):=⟨_,rfl⟩
      replace H : (spec_l5Close.l1 k1 (([(⟨0,y193⟩ : S91),(⟨1,x5_1⟩ : S91)] : List (S91))) l0_3 (l0_3.length : Int) 0 l0_0 l0_1 l0_2 l0_3) = some r:=by first|(rw [hy193];with_reducible exact H)|(have H2_:=(Option.bind_some _ _).symm.trans H;rw [hy193];with_reducible exact H2_)|(have H2_:=(Option.bind_some _ _).symm.trans H;with_reducible exact H2_)|with_reducible exact H|(rw [hy193];exact H)|exact H
      have Ny193:=Aside0.mk hy193
      clear hy193
      obtain ⟨y196,hy196⟩ : ∃ y_ : List (S91),y_ = (([(⟨0,y193⟩ : S91),(⟨1,x5_1⟩ : S91)] : List (S91))):=⟨_,rfl⟩
      replace H : (spec_l5Close.l1 k1 y196 l0_3 (l0_3.length : Int) 0 l0_0 l0_1 l0_2 l0_3) = some r:=by first|(rw [hy196];with_reducible exact H)|(have H2_:=(Option.bind_some _ _).symm.trans H;rw [hy196];with_reducible exact H2_)|(have H2_:=(Option.bind_some _ _).symm.trans H;with_reducible exact H2_)|with_reducible exact H|(rw [hy196];exact H)|exact H
      have Ny196:=Aside0.mk hy196
      clear hy196
      have H':=Aside0.mk H
      clear H
      go_wp2_with (first|((with_reducible refine gate_dst (N:=27) rfl ?_);refine Kd.R_lit (Kd.int .u8) _ 5 ?hg (N:=27) ?hd (xs:=([] : List Int)) (inner:=[]) (ok:=fun _=>True) (okp:=fun _=>True) ?hr ?hp (fun _ hk=>hk) trivial (Below.refl _ _) (Nat.le_refl _) (by simp) ?_;(case hd=>rfl);(case hg=>rfl);(case hr=>first|(go_simp;done)|(go_simp;rfl));(case hp=>exact (Reps.none _ _));intro v191 w18 ho19 hb hg_ hnew_;clear hg_ hnew_;(first|rw [← Ny190.out] at ho19|(simp only [Int.reduceToNat] at ho19;rw [← Ny190.out] at ho19));have n0_:=Aside0.mk (Kd.R_elder' (by (with_reducible repeat (first|apply Kd.R_alloc|apply Kd.R_drewN|apply Kd.R_drew));exact HO_5.out) (Kd.R_base ho19) hb);have n1_:=Aside0.mk (Kd.R_lower (Kd.R_new' ho19 (Kd.R_lt (by (with_reducible repeat (first|apply Kd.R_alloc|apply Kd.R_drewN|apply Kd.R_drew));exact HO_5.out))) (below_size (by repeat (first|(with_reducible first|exact HB.out|apply below_alloc|apply pw_below_drewN|apply below_drew1|refine below_set ?_ GE183.out)|exact HB.out))));have n2_:=Aside0.mk (blk_below (g:=gb183) (o:=.cells #[.slice A0_0 l0_0.length c0_0,.slice A0_1 l0_1.length c0_1,.slice A0_2 l0_2.length c0_2,.slice A0_3 l0_3.length c0_3] 29 (0,0)) (by (with_reducible repeat first|apply blk_drewN|apply blk_drew|apply blk_alloc);exact BK183.out) hb);have n3_:=Aside0.mk (below_step (by repeat (first|(with_reducible first|exact HB.out|apply below_alloc|apply pw_below_drewN|apply below_drew1|refine below_set ?_ GE183.out)|exact HB.out)) hb);clear HO_5;clear BK183;clear HB;have HO_5:=n0_;have HO192:=n1_;have BK183:=n2_;have HB:=n3_;clear n0_ n1_ n2_ n3_;clear hb ho19)|((with_reducible refine gate_builtin (b:=.append) (xs:=#[.tmp 27,.tmp 28]) rfl ?_);at_builtin;refine Kd.R_append_rows (Kd.int .u8) (w0:=w) w.heap.size rfl (.tmp 27) (.tmp 28) 23 5 (.int .u8 0) 1 rfl Try.underlying23 info5 rfl (by decide) (by omega) v191 y190 l1 _ _ _ (fun k_=>some k_ ≠ (.slice Ao10 x5_1.length co10 : Value).ownBlock) (fun _=>False) rfl rfl ?aO ?aR (fun _ _ h=>h) (fun _ h=>h.elim) ?aF ?aB ?aS ?aL ?_;(case aR=>repeat (first|exact (Kd.C_below HR1.out HB.out)|(with_reducible first|apply Kd.C_alloc|apply Kd.C_drewN|apply Kd.C_drew)));(case aB=>exact (by repeat (first|(with_reducible first|exact HB.out|apply below_alloc|apply pw_below_drewN|apply below_drew1|refine below_set ?_ GE183.out)|exact HB.out)));(case aF=>exact (fun k_ hk=>Kd.fresh' (Kd.R_lt (by (with_reducible repeat (first|apply Kd.R_alloc|apply Kd.R_drewN|apply Kd.R_drew));exact HO_5.out)) k_ hk));(case aO=>exact (by (with_reducible repeat (first|apply Kd.R_alloc|apply Kd.R_drewN|apply Kd.R_drew));exact Kd.R_mono HO192.out (fun _ hk=>hk.2)));(case aS=>exact (below_size (by repeat (first|(with_reducible first|exact HB.out|apply below_alloc|apply pw_below_drewN|apply below_drew1|refine below_set ?_ GE183.out)|exact HB.out))));(case aL=>have:=LMc17.out;omega);intro v194 w20 ho hb hg hat;rw [← Ny193.out] at ho;have n0_:=Aside0.mk (Kd.R_after (ok:=(fun _=>True)) (by (with_reducible repeat (first|apply Kd.R_alloc|apply Kd.R_drewN|apply Kd.R_drew));exact HO_5.out) hg hat);have n1_:=Aside0.mk (blk_grown (g:=gb183) (o:=.cells #[.slice A0_0 l0_0.length c0_0,.slice A0_1 l0_1.length c0_1,.slice A0_2 l0_2.length c0_2,.slice A0_3 l0_3.length c0_3] 29 (0,0)) (by (with_reducible repeat first|apply blk_drewN|apply blk_drew|apply blk_alloc);exact BK183.out) hg (Kd.R_ne HO192.out BK183.out (by decide)));have n2_:=Aside0.mk (hb);have n3_:=Aside0.mk (ho);clear HO_5;clear BK183;clear HB;clear HO192;have HO_5:=n0_;have BK183:=n1_;have HB:=n2_;have HO195:=n3_;clear n0_ n1_ n2_ n3_;clear ho hb hg hat;obtain ⟨Ao21,co21,eo21⟩:=Kd.R_slice HO195.out;subst eo21)|((with_reducible refine gate_dst (N:=33) rfl ?_);refine S_lit2 k91 w.heap.size 91 ?hg (N:=33) ?hd (xs:=([(⟨0,y193⟩ : S91),(⟨1,x5_1⟩ : S91)] : List (S91))) (inner:=[.int .i64 0,.slice Ao21 y193.length co21,.int .i64 1,.slice Ao10 x5_1.length co10]) (x0:=(⟨0,y193⟩ : S91)) (x1:=(⟨1,x5_1⟩ : S91)) (c0:=[.int .i64 0,.slice Ao21 y193.length co21]) (c1:=[.int .i64 1,.slice Ao10 x5_1.length co10]) (ok:=(fun _=>True)) (ok0:=(fun k_=>some k_ = (.slice Ao21 y193.length co21 : Value).ownBlock)) (ok1:=(fun k_=>some k_ = (.slice Ao10 x5_1.length co10 : Value).ownBlock)) rfl rfl ?hr ?h0 ?h1 rfl rfl (fun k_ ha_ hb_=>((HO195.out.1 k_ ha_.symm)) hb_) (fun k_ hk_=>((Kd.R_mono (ok':=(fun _=>True)) (HO195.out) (fun k_ hk=>trivial))).1 k_ hk_.symm) (fun k_ hk_=>((Kd.R_mono (ok':=(fun _=>True)) (HO_5.out) (fun k_ hk=>trivial))).1 k_ hk_.symm) ?hf ?hb ?_;(case hd=>rfl);(case hg=>rfl);(case hr=>first|(go_simp;done)|(go_simp;rfl));(case h0=>exact k91_mkM _ _ _ (⟨0,y193⟩ : S91) (Kd.R_tight rfl (Kd.R_mono (ok':=(fun _=>True)) (HO195.out) (fun k_ hk=>trivial))));(case h1=>exact k91_mkM _ _ _ (⟨1,x5_1⟩ : S91) (Kd.R_tight rfl (Kd.R_mono (ok':=(fun _=>True)) (HO_5.out) (fun k_ hk=>trivial))));(case hf=>exact trivial);(case hb=>exact (below_size (by repeat (first|(with_reducible first|exact HB.out|apply below_alloc|apply pw_below_drewN|apply below_drew1|refine below_set ?_ GE183.out)|exact HB.out))));intro v197 w22 ho23 hb hg_ hnew_;clear hg_ hnew_;(first|rw [← Ny196.out] at ho23|(simp only [Int.reduceToNat] at ho23;rw [← Ny196.out] at ho23));have n0_:=Aside0.mk (ho23);have n1_:=Aside0.mk (blk_below (g:=gb183) (o:=.cells #[.slice A0_0 l0_0.length c0_0,.slice A0_1 l0_1.length c0_1,.slice A0_2 l0_2.length c0_2,.slice A0_3 l0_3.length c0_3] 29 (0,0)) (by (with_reducible repeat first|apply blk_drewN|apply blk_drew|apply blk_alloc);exact BK183.out) hb);have n2_:=Aside0.mk (below_step (by repeat (first|(with_reducible first|exact HB.out|apply below_alloc|apply pw_below_drewN|apply below_drew1|refine below_set ?_ GE183.out)|exact HB.out)) hb);clear BK183;clear HB;clear HO195;clear HO_5;have HO198:=n0_;have BK183:=n1_;have HB:=n2_;clear n0_ n1_ n2_;clear hb ho23;have hcz24_0 : w22.cell? ⟨gb183,0,none⟩ = some (.slice A0_0 l0_0.length c0_0):=(blk_cell BK183.out 0).trans rfl;have hcz24_1 : w22.cell? ⟨gb183,1,none⟩ = some (.slice A0_1 l0_1.length c0_1):=(blk_cell BK183.out 1).trans rfl;have hcz24_2 : w22.cell? ⟨gb183,2,none⟩ = some (.slice A0_2 l0_2.length c0_2):=(blk_cell BK183.out 2).trans rfl;have hcz24_3 : w22.cell? ⟨gb183,3,none⟩ = some (.slice A0_3 l0_3.length c0_3):=(blk_cell BK183.out 3).trans rfl;have hfz24_0:=blk_frozen BK183.out 0;have hfz24_1:=blk_frozen BK183.out 1;have hfz24_2:=blk_frozen BK183.out 2;have hfz24_3:=blk_frozen BK183.out 3))
      go_loopg [8,37] k1 (fun kq v8 v37 w'=>∃ (x8_2 : List (S91)) (x37_2 : Int),v37 = .int .i64 x37_2∧Aside0 (spec_l5Close.l1 kq x8_2 l0_3 (l0_3.length : Int) x37_2 l0_0 l0_1 l0_2 l0_3 = some r)∧Aside0 (kq ≤ k1)∧Aside0 (Kd.S k91 91 w' w.heap.size (fun _=>True) v8 x8_2)∧Aside0 (w'.heap[gb183]? = some (.cells #[(.slice A0_0 l0_0.length c0_0),(.slice A0_1 l0_1.length c0_1),(.slice A0_2 l0_2.length c0_2),(.slice A0_3 l0_3.length c0_3)] 29 (0,0)))∧Aside0 (Below w.heap.size w w'))
      case atStart=>exact ⟨(y196),(0),(by first|rfl|(simp;done)|(simp [*];done)),H',⟨Nat.le_refl _⟩,⟨by (try simp only [hl5_1]);(with_reducible repeat (first|apply Kd.S_alloc|apply Kd.S_drewN|apply Kd.S_drew));exact HO198.out⟩,⟨by (try simp only [hl5_1]);(with_reducible repeat first|apply blk_drewN|apply blk_drew|apply blk_alloc);exact BK183.out⟩,⟨by repeat (first|(with_reducible first|exact HB.out|apply below_alloc|apply pw_below_drewN|apply below_drew1|refine below_set ?_ GE183.out)|exact HB.out)⟩⟩
      case round =>
       clear H'
       try clear c1;try clear p1;try clear q1;try clear hx1;try clear p2;try clear c3;try clear c3b0;try clear c3b1;try clear p6;try clear c7;try clear c8;try clear q9;try clear c12;try clear c12b0;try clear c13;try clear c13b0;try clear c14;try clear c14b0;try clear c17;try clear p18;try clear q18;try clear hx18;try clear hcz11_0;try clear hcz11_1;try clear hcz11_2;try clear hcz11_3;try clear hcz24_0;try clear hcz24_1;try clear hcz24_2;try clear hcz24_3;try clear hcz7_0;try clear hcz7_1;try clear hcz7_2;try clear hcz7_3;try clear hfz11_0;try clear hfz11_1;try clear hfz11_2;try clear hfz11_3;try clear hfz24_0;try clear hfz24_1;try clear hfz24_2;try clear hfz24_3;try clear hfz7_0;try clear hfz7_1;try clear hfz7_2;try clear hfz7_3;try clear hx188_0;try clear p188;try clear p2;try clear q188;try clear q9
       obtain ⟨x8_2,x37_2,rfl,HA,HK2,HO_8,BK183,HB⟩:=hrel
       cases gk with
       | zero=>exact absurd HA.out (by simp [spec_l5Close.l1])
       | succ k2 =>
        have H:=HA.out
        clear HA
        simp only [spec_l5Close.l1] at H
        by_cases c25 : x37_2 < (l0_3.length : Int)
        ·rw [if_pos c25] at H
         have c25b0 : decide (x37_2 < (l0_3.length : Int)) = true:=decide_eq_true c25
         clear c25
         by_cases c26 : 0 ≤ x37_2
         ·rw [if_pos c26] at H
          have c26b0 : decide (0 ≤ x37_2) = true:=decide_eq_true c26
          clear c26
          by_cases c27 : x37_2 < (l0_3.length : Int)
          ·rw [if_pos c27] at H
           have c27b0 : decide (x37_2 < (l0_3.length : Int)) = true:=decide_eq_true c27
           clear c27
           replace H:=Option.bind_eq_some_iff.mp H
           obtain ⟨t200,A280,H⟩:=H
           replace H : (if t200 = true then (spec_l5Close.l1 k2 x8_2 l0_3 (l0_3.length : Int) (wrap64 (x37_2 + 1)) l0_0 l0_1 l0_2 l0_3) else ((some (([] : List Int) : List Int)).bind fun y201=>(if 0 ≤ (rd l0_3 x37_2) then (if (rd l0_3 x37_2) < (l0_0.length : Int) then (if y201.length + (rd_L1 l0_0 (rd l0_3 x37_2)).length < 140737488355328 then (if x8_2.length < 4398046511104 then (spec_l5Close.l1 k2 (x8_2 ++ [(⟨rd l0_3 x37_2,(y201 ++ (rd_L1 l0_0 (rd l0_3 x37_2)))⟩ : S91)]) l0_3 (l0_3.length : Int) (wrap64 (x37_2 + 1)) l0_0 l0_1 l0_2 l0_3) else (none)) else (none)) else (none)) else (none)))) = some r:=H
           have A28:=Aside0.mk A280
           clear A280
           by_cases c29 : t200 = true
           ·subst c29
            have H1 : (spec_l5Close.l1 k2 x8_2 l0_3 (l0_3.length : Int) (wrap64 (x37_2 + 1)) l0_0 l0_1 l0_2 l0_3) = some r:=by rw [if_pos rfl] at H;exact H
            clear H
            have H:=H1
            clear H1
            have H':=Aside0.mk H
            clear H
            have p199 : 0 ≤ (x37_2 : Int):=of_decide_eq_true (by assumption)
            have q199 : x37_2 < (l0_3.length : Int):=of_decide_eq_true (by assumption)
            obtain ⟨ad199,e199,hx199_0⟩:=Kd.at_int HR0_3.out x37_2 p199 q199
            cases e199
            (try replace hx199_0:=(HB.out.cell (World.block_lt_of_cell? w _ hx199_0)).trans hx199_0)
            replace p199:=eq_true p199
            replace q199:=eq_true q199
            have hcz30_0 : wr.cell? ⟨gb183,0,none⟩ = some (.slice A0_0 l0_0.length c0_0):=(blk_cell BK183.out 0).trans rfl
            have hcz30_1 : wr.cell? ⟨gb183,1,none⟩ = some (.slice A0_1 l0_1.length c0_1):=(blk_cell BK183.out 1).trans rfl
            have hcz30_2 : wr.cell? ⟨gb183,2,none⟩ = some (.slice A0_2 l0_2.length c0_2):=(blk_cell BK183.out 2).trans rfl
            have hcz30_3 : wr.cell? ⟨gb183,3,none⟩ = some (.slice (some ad199) l0_3.length c0_3):=(blk_cell BK183.out 3).trans rfl
            have hfz30_0:=blk_frozen BK183.out 0
            have hfz30_1:=blk_frozen BK183.out 1
            have hfz30_2:=blk_frozen BK183.out 2
            have hfz30_3:=blk_frozen BK183.out 3
            go_wp2_with (first|((with_reducible refine gate_callee (f:=81) rfl ?_);refine goesL_ (some 44) rfl rfl Try.func81 (by kernel_rfl) rfl #[.slice A0_2 l0_2.length c0_2,.int .i64 (rd l0_3 x37_2)] rfl (by (try simp only [List.map_toArray,List.map_cons,List.map_nil]);first|done|rfl|(simp only [List.length_drop,List.length_take];rfl)) ?_;(with_reducible refine (spec_l5Has.calls k2 _ _ l0_2 (rd l0_3 x37_2) true _ ?side1 ?side2 A28.out).mono ?_);(case side1=>repeat (first|exact (Kd.C_below HR0_2.out HB.out)|(with_reducible first|apply Kd.C_alloc|apply Kd.C_drewN|apply Kd.C_drew)));(case side2=>exact HC0_2.out);rintro e w' ⟨rfl,⟨nd,rfl⟩⟩;refine ⟨_,rfl,?_⟩))
            go_roundg k2
            case measure=>have:=HK1.out;have:=HK2.out;omega
            case rel=>exact ⟨(x8_2),(wrap64 (x37_2 + 1)),(by first|rfl|(simp;done)|(simp [*];done)),H',⟨by have:=HK1.out;have:=HK2.out;omega⟩,⟨by (try simp only [hl5_1]);(with_reducible repeat (first|apply Kd.S_alloc|apply Kd.S_drewN|apply Kd.S_drew));exact HO_8.out⟩,⟨by (try simp only [hl5_1]);(with_reducible repeat first|apply blk_drewN|apply blk_drew|apply blk_alloc);exact BK183.out⟩,⟨by repeat (first|(with_reducible first|exact HB.out|apply below_alloc|apply pw_below_drewN|apply below_drew1|refine below_set ?_ GE183.out)|exact HB.out)⟩⟩
           ·replace c29:=Bool.eq_false_iff.mpr c29
            subst c29
            have H1 : ((some (([] : List Int) : List Int)).bind fun y201=>(if 0 ≤ (rd l0_3 x37_2) then (if (rd l0_3 x37_2) < (l0_0.length : Int) then (if y201.length + (rd_L1 l0_0 (rd l0_3 x37_2)).length < 140737488355328 then (if x8_2.length < 4398046511104 then (spec_l5Close.l1 k2 (x8_2 ++ [(⟨rd l0_3 x37_2,(y201 ++ (rd_L1 l0_0 (rd l0_3 x37_2)))⟩ : S91)]) l0_3 (l0_3.length : Int) (wrap64 (x37_2 + 1)) l0_0 l0_1 l0_2 l0_3) else (none)) else (none)) else (none)) else (none))) = some r:=by rw [if_neg (show ¬ (false = true) by decide)] at H;exact H
            clear H
            have H:=H1
            clear H1
            obtain ⟨y201,hy201⟩ : ∃ y_ : List Int,y_ = (([] : List Int)):=⟨_,rfl⟩
            replace H : (if 0 ≤ (rd l0_3 x37_2) then (if (rd l0_3 x37_2) < (l0_0.length : Int) then (if y201.length + (rd_L1 l0_0 (rd l0_3 x37_2)).length < 140737488355328 then (if x8_2.length < 4398046511104 then (spec_l5Close.l1 k2 (x8_2 ++ [(⟨rd l0_3 x37_2,(y201 ++ (rd_L1 l0_0 (rd l0_3 x37_2)))⟩ : S91)]) l0_3 (l0_3.length : Int) (wrap64 (x37_2 + 1)) l0_0 l0_1 l0_2 l0_3) else (none)) else (none)) else (none)) else (none)) = some r:=by first|(rw [hy201];with_reducible exact H)|(have H2_:=(Option.bind_some _ _).symm.trans H;rw [hy201];with_reducible exact H2_)|(have H2_:=(Option.bind_some _ _).symm.trans H;with_reducible exact H2_)|with_reducible exact H|(rw [hy201];exact H)|exact H
            have Ny201:=Aside0.mk hy201
            clear hy201
            by_cases c31 : 0 ≤ (rd l0_3 x37_2)
            ·rw [if_pos c31] at H
             have c31b0 : decide (0 ≤ (rd l0_3 x37_2)) = true:=decide_eq_true c31
             clear c31
             by_cases c32 : (rd l0_3 x37_2) < (l0_0.length : Int)
             ·rw [if_pos c32] at H
              have c32b0 : decide ((rd l0_3 x37_2) < (l0_0.length : Int)) = true:=decide_eq_true c32
              clear c32
              by_cases c33 : y201.length + (rd_L1 l0_0 (rd l0_3 x37_2)).length < 140737488355328
              ·rw [if_pos c33] at H
               have LMc33:=Aside0.mk c33
               clear c33
               obtain ⟨y205,hy205⟩ : ∃ y_ : List Int,y_ = (y201 ++ (rd_L1 l0_0 (rd l0_3 x37_2))):=⟨_,rfl⟩
               replace H : (if x8_2.length < 4398046511104 then (spec_l5Close.l1 k2 (x8_2 ++ [(⟨rd l0_3 x37_2,y205⟩ : S91)]) l0_3 (l0_3.length : Int) (wrap64 (x37_2 + 1)) l0_0 l0_1 l0_2 l0_3) else (none)) = some r:=by first|(rw [hy205];with_reducible exact H)|(have H2_:=(Option.bind_some _ _).symm.trans H;rw [hy205];with_reducible exact H2_)|(have H2_:=(Option.bind_some _ _).symm.trans H;with_reducible exact H2_)|with_reducible exact H|(rw [hy205];exact H)|exact H
               have Ny205:=Aside0.mk hy205
               clear hy205
               by_cases c34 : x8_2.length < 4398046511104
               ·rw [if_pos c34] at H
                have LMc34:=Aside0.mk c34
                clear c34
                obtain ⟨y208,hy208⟩ : ∃ y_ : List (S91),y_ = (x8_2 ++ [(⟨rd l0_3 x37_2,y205⟩ : S91)]):=⟨_,rfl⟩
                replace H : (spec_l5Close.l1 k2 y208 l0_3 (l0_3.length : Int) (wrap64 (x37_2 + 1)) l0_0 l0_1 l0_2 l0_3) = some r:=by first|(rw [hy208];with_reducible exact H)|(have H2_:=(Option.bind_some _ _).symm.trans H;rw [hy208];with_reducible exact H2_)|(have H2_:=(Option.bind_some _ _).symm.trans H;with_reducible exact H2_)|with_reducible exact H|(rw [hy208];exact H)|exact H
                have Ny208:=Aside0.mk hy208
                clear hy208
                have H':=Aside0.mk H
                clear H
                have p199 : 0 ≤ (x37_2 : Int):=of_decide_eq_true (by assumption)
                have q199 : x37_2 < (l0_3.length : Int):=of_decide_eq_true (by assumption)
                obtain ⟨ad199,e199,hx199_0⟩:=Kd.at_int HR0_3.out x37_2 p199 q199
                cases e199
                (try replace hx199_0:=(HB.out.cell (World.block_lt_of_cell? w _ hx199_0)).trans hx199_0)
                replace p199:=eq_true p199
                replace q199:=eq_true q199
                have hcz35_0 : wr.cell? ⟨gb183,0,none⟩ = some (.slice A0_0 l0_0.length c0_0):=(blk_cell BK183.out 0).trans rfl
                have hcz35_1 : wr.cell? ⟨gb183,1,none⟩ = some (.slice A0_1 l0_1.length c0_1):=(blk_cell BK183.out 1).trans rfl
                have hcz35_2 : wr.cell? ⟨gb183,2,none⟩ = some (.slice A0_2 l0_2.length c0_2):=(blk_cell BK183.out 2).trans rfl
                have hcz35_3 : wr.cell? ⟨gb183,3,none⟩ = some (.slice (some ad199) l0_3.length c0_3):=(blk_cell BK183.out 3).trans rfl
                have hfz35_0:=blk_frozen BK183.out 0
                have hfz35_1:=blk_frozen BK183.out 1
                have hfz35_2:=blk_frozen BK183.out 2
                have hfz35_3:=blk_frozen BK183.out 3
                go_wp2_with (first|((with_reducible refine gate_callee (f:=81) rfl ?_);refine goesL_ (some 44) rfl rfl Try.func81 (by kernel_rfl) rfl #[.slice A0_2 l0_2.length c0_2,.int .i64 (rd l0_3 x37_2)] rfl (by (try simp only [List.map_toArray,List.map_cons,List.map_nil]);first|done|rfl|(simp only [List.length_drop,List.length_take];rfl)) ?_;(with_reducible refine (spec_l5Has.calls k2 _ _ l0_2 (rd l0_3 x37_2) false _ ?side1 ?side2 A28.out).mono ?_);(case side1=>repeat (first|exact (Kd.C_below HR0_2.out HB.out)|(with_reducible first|apply Kd.C_alloc|apply Kd.C_drewN|apply Kd.C_drew)));(case side2=>exact HC0_2.out);rintro e w' ⟨rfl,⟨nd,rfl⟩⟩;refine ⟨_,rfl,?_⟩)|((with_reducible refine gate_dst (N:=48) rfl ?_);refine Kd.R_lit (Kd.int .u8) _ 5 ?hg (N:=48) ?hd (xs:=([] : List Int)) (inner:=[]) (ok:=fun _=>True) (okp:=fun _=>True) ?hr ?hp (fun _ hk=>hk) trivial (Below.refl _ _) (Nat.le_refl _) (by simp) ?_;(case hd=>rfl);(case hg=>rfl);(case hr=>first|(go_simp;done)|(go_simp;rfl));(case hp=>exact (Reps.none _ _));intro v202 w36 ho37 hb hg_ hnew_;clear hg_ hnew_;(first|rw [← Ny201.out] at ho37|(simp only [Int.reduceToNat] at ho37;rw [← Ny201.out] at ho37));have n0_:=Aside0.mk (Kd.S_elder' (by (with_reducible repeat (first|apply Kd.S_alloc|apply Kd.S_drewN|apply Kd.S_drew));exact HO_8.out) (Kd.R_base ho37) hb);have n1_:=Aside0.mk (Kd.R_lower ho37 (below_size (by repeat (first|(with_reducible first|exact HB.out|apply below_alloc|apply pw_below_drewN|apply below_drew1|refine below_set ?_ GE183.out)|exact HB.out))));have n2_:=Aside0.mk (blk_below (g:=gb183) (o:=.cells #[.slice A0_0 l0_0.length c0_0,.slice A0_1 l0_1.length c0_1,.slice A0_2 l0_2.length c0_2,.slice (some ad199) l0_3.length c0_3] 29 (0,0)) (by (with_reducible repeat first|apply blk_drewN|apply blk_drew|apply blk_alloc);exact BK183.out) hb);have n3_:=Aside0.mk (below_step (by repeat (first|(with_reducible first|exact HB.out|apply below_alloc|apply pw_below_drewN|apply below_drew1|refine below_set ?_ GE183.out)|exact HB.out)) hb);clear HO_8;clear BK183;clear HB;have HO_8:=n0_;have HO203:=n1_;have BK183:=n2_;have HB:=n3_;clear n0_ n1_ n2_ n3_;clear hb ho37;have hcz38_0 : w36.cell? ⟨gb183,0,none⟩ = some (.slice A0_0 l0_0.length c0_0):=(blk_cell BK183.out 0).trans rfl;have hcz38_1 : w36.cell? ⟨gb183,1,none⟩ = some (.slice A0_1 l0_1.length c0_1):=(blk_cell BK183.out 1).trans rfl;have hcz38_2 : w36.cell? ⟨gb183,2,none⟩ = some (.slice A0_2 l0_2.length c0_2):=(blk_cell BK183.out 2).trans rfl;have hcz38_3 : w36.cell? ⟨gb183,3,none⟩ = some (.slice (some ad199) l0_3.length c0_3):=(blk_cell BK183.out 3).trans rfl;have hfz38_0:=blk_frozen BK183.out 0;have hfz38_1:=blk_frozen BK183.out 1;have hfz38_2:=blk_frozen BK183.out 2;have hfz38_3:=blk_frozen BK183.out 3;have p204 : 0 ≤ ((rd l0_3 x37_2) : Int):=of_decide_eq_true (by assumption);have q204 : (rd l0_3 x37_2) < (l0_0.length : Int):=of_decide_eq_true (by assumption);obtain ⟨ad204,A204_0,c204_0,e204,hx204_0,hl204_0,hi204_0⟩:=at_L1 HR0_0.out (rd l0_3 x37_2) p204 q204;cases e204;(try replace hx204_0:=(HB.out.cell (World.block_lt_of_cell? w _ hx204_0)).trans hx204_0);have HR204_0:=Aside0.mk hi204_0;have HC204_0:=Aside0.mk hl204_0;clear hi204_0 hl204_0;replace p204:=eq_true p204;replace q204:=eq_true q204)|((with_reducible refine gate_builtin (b:=.append) (xs:=#[.tmp 48,.tmp 53]) rfl ?_);at_builtin;refine Kd.R_append_rows (Kd.int .u8) (w0:=w) w.heap.size rfl (.tmp 48) (.tmp 53) 23 5 (.int .u8 0) 1 rfl Try.underlying23 info5 rfl (by decide) (by omega) v202 y201 (rd_L1 l0_0 (rd l0_3 x37_2)) _ _ _ (fun _=>True) (fun _=>False) rfl rfl ?aO ?aR (fun _ _ h=>h) (fun _ h=>h.elim) ?aF ?aB ?aS ?aL ?_;(case aR=>repeat (first|exact (Kd.C_below HR204_0.out HB.out)|(with_reducible first|apply Kd.C_alloc|apply Kd.C_drewN|apply Kd.C_drew)));(case aB=>exact (by repeat (first|(with_reducible first|exact HB.out|apply below_alloc|apply pw_below_drewN|apply below_drew1|refine below_set ?_ GE183.out)|exact HB.out)));(case aF=>exact (fun _ _=>trivial));(case aO=>exact (by (with_reducible repeat (first|apply Kd.R_alloc|apply Kd.R_drewN|apply Kd.R_drew));exact HO203.out));(case aS=>exact (below_size (by repeat (first|(with_reducible first|exact HB.out|apply below_alloc|apply pw_below_drewN|apply below_drew1|refine below_set ?_ GE183.out)|exact HB.out))));(case aL=>have:=LMc33.out;omega);intro v206 w39 ho hb hg hat;rw [← Ny205.out] at ho;have n0_:=Aside0.mk (Kd.S_after (ok:=(fun _=>True)) (by (with_reducible repeat (first|apply Kd.S_alloc|apply Kd.S_drewN|apply Kd.S_drew));exact HO_8.out) hg hat);have n1_:=Aside0.mk (blk_grown (g:=gb183) (o:=.cells #[.slice (some ad204) l0_0.length c0_0,.slice A0_1 l0_1.length c0_1,.slice A0_2 l0_2.length c0_2,.slice (some ad199) l0_3.length c0_3] 29 (0,0)) (by (with_reducible repeat first|apply blk_drewN|apply blk_drew|apply blk_alloc);exact BK183.out) hg (Kd.R_ne HO203.out BK183.out (by decide)));have n2_:=Aside0.mk (hb);have n3_:=Aside0.mk (ho);clear HO_8;clear BK183;clear HB;clear HO203;have HO_8:=n0_;have BK183:=n1_;have HB:=n2_;have HO207:=n3_;clear n0_ n1_ n2_ n3_;clear ho hb hg hat;obtain ⟨Ao40,co40,eo40⟩:=Kd.R_slice HO207.out;subst eo40)|((with_reducible refine gate_builtin (b:=.append) (xs:=#[.tmp 46,.tmp 56]) rfl ?_);at_builtin;refine Kd.S_append k91 (w0:=w) w.heap.size rfl (.tmp 46) (.tmp 56) 57 91 (.agg #[(.int .i64 0),(.slice none 0 0)]) 32 rfl Try.underlying57 info91 rfl (by decide) (by omega) u8 x8_2 (⟨rd l0_3 x37_2,y205⟩ : S91) [.int .i64 (rd l0_3 x37_2),.slice Ao40 y205.length co40] (fun _=>True) (fun k_=>some k_ = (.slice Ao40 y205.length co40 : Value).ownBlock) rfl rfl ?aP (fun k_ hk_=>((Kd.R_mono (ok':=fun k_=>((fun _=>True)) k_∧some k_ ≠ (u8 : Value).ownBlock) (Kd.R_apart' (HO207.out) (Kd.S_typed HO_8.out) (by decide)) (fun k_ hk=>⟨trivial,hk.2⟩))).1 k_ hk_.symm) ?aF ?aO ?aB ?aS ?aL ?_;(case aP=>exact k91_mkM _ _ _ (⟨rd l0_3 x37_2,y205⟩ : S91) (Kd.R_mono (Kd.R_tight rfl (Kd.R_mono (ok':=fun k_=>((fun _=>True)) k_∧some k_ ≠ (u8 : Value).ownBlock) (Kd.R_apart' (HO207.out) (Kd.S_typed HO_8.out) (by decide)) (fun k_ hk=>⟨trivial,hk.2⟩))) (fun _ h_=>h_)));(case aB=>exact (by repeat (first|(with_reducible first|exact HB.out|apply below_alloc|apply pw_below_drewN|apply below_drew1|refine below_set ?_ GE183.out)|exact HB.out)));(case aF=>exact (fun _ _=>trivial));(case aO=>exact (by (with_reducible repeat (first|apply Kd.S_alloc|apply Kd.S_drewN|apply Kd.S_drew));exact Kd.S_mono HO_8.out (fun k_ hk=>⟨trivial,fun e_=>hk.2 e_⟩)));(case aS=>exact (below_size (by repeat (first|(with_reducible first|exact HB.out|apply below_alloc|apply pw_below_drewN|apply below_drew1|refine below_set ?_ GE183.out)|exact HB.out))));(case aL=>have:=LMc34.out;omega);intro v209 w41 ho hb hg hat;rw [← Ny208.out] at ho;have n0_:=Aside0.mk (blk_grown (g:=gb183) (o:=.cells #[.slice (some ad204) l0_0.length c0_0,.slice A0_1 l0_1.length c0_1,.slice A0_2 l0_2.length c0_2,.slice (some ad199) l0_3.length c0_3] 29 (0,0)) (by (with_reducible repeat first|apply blk_drewN|apply blk_drew|apply blk_alloc);exact BK183.out) hg (Kd.S_ne HO_8.out BK183.out (by decide)));have n1_:=Aside0.mk (hb);have n2_:=Aside0.mk (ho);clear BK183;clear HB;clear HO_8;clear HO207;have BK183:=n0_;have HB:=n1_;have HO210:=n2_;clear n0_ n1_ n2_;clear ho hb hg hat))
                go_roundg k2
                case measure=>have:=HK1.out;have:=HK2.out;omega
                case rel=>exact ⟨(y208),(wrap64 (x37_2 + 1)),(by first|rfl|(simp;done)|(simp [*];done)),H',⟨by have:=HK1.out;have:=HK2.out;omega⟩,⟨by (try simp only [hl5_1]);(with_reducible repeat (first|apply Kd.S_alloc|apply Kd.S_drewN|apply Kd.S_drew));exact HO210.out⟩,⟨by (try simp only [hl5_1]);(with_reducible repeat first|apply blk_drewN|apply blk_drew|apply blk_alloc);exact BK183.out⟩,⟨by repeat (first|(with_reducible first|exact HB.out|apply below_alloc|apply pw_below_drewN|apply below_drew1|refine below_set ?_ GE183.out)|exact HB.out)⟩⟩
               ·rw [if_neg c34] at H
                exact absurd H (by simp)
              ·rw [if_neg c33] at H
               exact absurd H (by simp)
             ·rw [if_neg c32] at H
              exact absurd H (by simp)
            ·rw [if_neg c31] at H
             exact absurd H (by simp)
          ·rw [if_neg c27] at H
           exact absurd H (by simp)
         ·rw [if_neg c26] at H
          exact absurd H (by simp)
        ·rw [if_neg c25] at H
         have c25b0 : decide (x37_2 < (l0_3.length : Int)) = false:=decide_eq_false c25
         clear c25
         obtain rfl:=Option.some.inj H
         go_wp2
         go_ret
         exact ⟨_,by first|rfl|(simp [*,errW_none,errW_some] <;> rfl),by (with_reducible repeat (first|apply Kd.S_alloc|apply Kd.S_drewN|apply Kd.S_drew));exact HO_8.out,by repeat (first|(with_reducible first|exact HB.out|apply below_alloc|apply pw_below_drewN|apply below_drew1|refine below_set ?_ GE183.out)|exact HB.out)⟩
     ·rw [if_neg c17] at H
      exact absurd H (by simp)
 ·rw [if_neg c3] at H
  exact absurd H (by simp)

/-! ### spec_CloseSpace: function 37 -/
def spec_CloseSpace.j0 : Nat → List Int → Bool → List (List Int) → List Int → List Int → List Int → Option ((List (S91)) × Bool)
 | 0,_,_,_,_,_,_=>none
 | k + 1,x1,x14,x212000,x212001,x212002,x212003=>if x14 = true then (some (([] : List (S91)),false)) else ((spec_l5Close.f k x212000 x212001 x212002 x212003 x1).bind fun t213=>(if (t213.length : Int) > 30 then (some (([] : List (S91)),false)) else (some (t213,true))))
def spec_CloseSpace.f (k : Nat) (l0_0 : List (List Int)) (l0_1 : List Int) (l0_2 : List Int) (l0_3 : List Int) (l1 : List Int) : Option ((List (S91)) × Bool):=(spec_GoodSpace.f k l0_0 l0_1 l0_2 l0_3).bind fun t212=>(if t212 = true then (spec_CloseSpace.j0 k l1 ((l1.length : Int) != 128) l0_0 l0_1 l0_2 l0_3) else (spec_CloseSpace.j0 k l1 true l0_0 l0_1 l0_2 l0_3))
theorem spec_CloseSpace.mono_l : ∀ k,(∀ y0 y1 y2 y3 y4 y5,LeO (spec_CloseSpace.j0 k y0 y1 y2 y3 y4 y5) (spec_CloseSpace.j0 (k + 1) y0 y1 y2 y3 y4 y5))
 | 0=>fun _ _ _ _ _ _ r h=>by simp [spec_CloseSpace.j0] at h
 | k + 1=>by
  have ih0:=spec_CloseSpace.mono_l k
  ·intro y0 y1 y2 y3 y4 y5
   unfold spec_CloseSpace.j0
   repeat' first
   | (with_reducible exact ih0 _ _ _ _ _ _)
   | (with_reducible exact spec_GoodSpace.mono _ _ _ _ _)
   | (with_reducible exact spec_l5Close.mono _ _ _ _ _ _)
   | (with_reducible exact LeO.refl _)
   | (with_reducible exact LeO.none _)
   | (with_reducible refine LeO.ite ?_ ?_)
   | (with_reducible refine LeO.bind ?_ (fun _=>?_))
   | exact ih0 _ _ _ _ _ _
   | exact spec_GoodSpace.mono _ _ _ _ _
   | exact spec_l5Close.mono _ _ _ _ _ _
   | exact LeO.none _
   | refine LeO.ite ?_ ?_
   | refine LeO.bind ?_ (fun _=>?_)
theorem spec_CloseSpace.mono : ∀ a0 a1 a2 a3 a4 k,LeO (spec_CloseSpace.f k a0 a1 a2 a3 a4) (spec_CloseSpace.f (k + 1) a0 a1 a2 a3 a4):=by
 intro a0 a1 a2 a3 a4 k
 have ih0:=spec_CloseSpace.mono_l k
 unfold spec_CloseSpace.f
 repeat' first
   | (with_reducible exact ih0 _ _ _ _ _ _)
   | (with_reducible exact spec_GoodSpace.mono _ _ _ _ _)
   | (with_reducible exact spec_l5Close.mono _ _ _ _ _ _)
   | (with_reducible exact LeO.refl _)
   | (with_reducible exact LeO.none _)
   | (with_reducible refine LeO.ite ?_ ?_)
   | (with_reducible refine LeO.bind ?_ (fun _=>?_))
   | exact ih0 _ _ _ _ _ _
   | exact spec_GoodSpace.mono _ _ _ _ _
   | exact spec_l5Close.mono _ _ _ _ _ _
   | exact LeO.none _
   | refine LeO.ite ?_ ?_
   | refine LeO.bind ?_ (fun _=>?_)
set_option maxHeartbeats 8000000 in
set_option maxRecDepth 100000 in
theorem spec_CloseSpace.calls (k : Nat) (A0_0 : Option Addr) (c0_0 : Nat) (l0_0 : List (List Int)) (A0_1 : Option Addr) (c0_1 : Nat) (l0_1 : List Int) (A0_2 : Option Addr) (c0_2 : Nat) (l0_2 : List Int) (A0_3 : Option Addr) (c0_3 : Nat) (l0_3 : List Int) (A1 : Option Addr) (c1 : Nat) (l1 : List Int) (r1 : List (S91)) (r2 : Bool) (w : World) (hr0_0 : Kd.C (Kd.slice 5 (Kd.int .u8)) w A0_0 l0_0.length l0_0) (hc0_0 : l0_0.length ≤ c0_0) (hr0_1 : Kd.C (Kd.int .u8) w A0_1 l0_1.length l0_1) (hc0_1 : l0_1.length ≤ c0_1) (hr0_2 : Kd.C (Kd.int .i64) w A0_2 l0_2.length l0_2) (hc0_2 : l0_2.length ≤ c0_2) (hr0_3 : Kd.C (Kd.int .i64) w A0_3 l0_3.length l0_3) (hc0_3 : l0_3.length ≤ c0_3) (hr1 : Kd.C (Kd.int .u8) w A1 l1.length l1) (hc1 : l1.length ≤ c1) (h : spec_CloseSpace.f k l0_0 l0_1 l0_2 l0_3 l1 = some (r1,r2)) :
  Calls Try.prog 37 #[.agg #[.slice A0_0 l0_0.length c0_0,.slice A0_1 l0_1.length c0_1,.slice A0_2 l0_2.length c0_2,.slice A0_3 l0_3.length c0_3],.slice A1 l1.length c1] w fun e w'=>∃ v0_ : Value,e = .returned (.tuple #[v0_,.bool r2])∧Kd.S k91 91 w' w.heap.size (fun _=>True) v0_ r1∧Below w.heap.size w w':=by
 have hu29:=Try.underlying29
 have HR0_0:=Aside0.mk hr0_0
 have HC0_0:=Aside0.mk hc0_0
 clear hr0_0 hc0_0
 have HR0_1:=Aside0.mk hr0_1
 have HC0_1:=Aside0.mk hc0_1
 clear hr0_1 hc0_1
 have HR0_2:=Aside0.mk hr0_2
 have HC0_2:=Aside0.mk hc0_2
 clear hr0_2 hc0_2
 have HR0_3:=Aside0.mk hr0_3
 have HC0_3:=Aside0.mk hc0_3
 clear hr0_3 hc0_3
 have HR1:=Aside0.mk hr1
 have HC1:=Aside0.mk hc1
 clear hr1 hc1
 have HB:=Aside0.mk (Below.refl w.heap.size w)
 have H : ((spec_GoodSpace.f k l0_0 l0_1 l0_2 l0_3).bind fun t212=>(if t212 = true then (spec_CloseSpace.j0 k l1 ((l1.length : Int) != 128) l0_0 l0_1 l0_2 l0_3) else (spec_CloseSpace.j0 k l1 true l0_0 l0_1 l0_2 l0_3))) = some (r1,r2):=h
 clear h
 have HC3:=Aside0.mk H
 clear H
 go_enter Try.func37,Try.ntmps37
 go_upto_region 1 with (first|((with_reducible refine gate_dst (N:=2) rfl ?_);(try (refine gate_guard (by rfl) ?_;dsimp only));refine box_event ?hg (N:=2) ?hd (cs:=#[.slice A0_0 l0_0.length c0_0,.slice A0_1 l0_1.length c0_1,.slice A0_2 l0_2.length c0_2,.slice A0_3 l0_3.length c0_3]) (t:=29) ?hr ?_;(case hd=>rfl);(case hg=>rfl);(case hr=>first|(go_simp;done)|(go_simp;rfl));intro gb211 hg w4 hbox hb;have n0_:=Aside0.mk (below_step (by repeat (first|exact HB.out|apply below_alloc|apply pw_below_drewN|apply below_drew1)) hb);have n1_:=Aside0.mk (hbox);have n2_:=Aside0.mk ((by rw [hg];exact (below_size (by repeat (first|exact HB.out|apply below_alloc|apply pw_below_drewN|apply below_drew1))) : w.heap.size ≤ gb211));have n3_:=Aside0.mk ((by rw [hg];exact (below_size (by repeat (first|exact HB.out|apply below_alloc|apply pw_below_drewN|apply below_drew1))) : w.heap.size ≤ gb211));clear HB;have HB:=n0_;have BK211:=n1_;have GW211:=n2_;have GE211:=n3_;clear n0_ n1_ n2_ n3_;clear hb hbox hg))
 (try simp only [Act.put,List.setIfInBounds_toArray,List.set_cons_zero,List.set_cons_succ])
 go_cut [14] (fun v14 wc=>∃ (kq : Nat) (x14_2 : Bool),v14 = .bool x14_2∧Aside0 (spec_CloseSpace.j0 kq l1 x14_2 l0_0 l0_1 l0_2 l0_3 = some (r1,r2))∧Aside0 (kq ≤ k)∧Aside0 (wc.heap[gb211]? = some (.cells #[(.slice A0_0 l0_0.length c0_0),(.slice A0_1 l0_1.length c0_1),(.slice A0_2 l0_2.length c0_2),(.slice A0_3 l0_3.length c0_3)] 29 (0,0)))∧Aside0 (Below w.heap.size w wc))
 case first =>
  have H:=HC3.out
  clear HC3
  replace H:=Option.bind_eq_some_iff.mp H
  obtain ⟨t212,A50,H⟩:=H
  replace H : (if t212 = true then (spec_CloseSpace.j0 k l1 ((l1.length : Int) != 128) l0_0 l0_1 l0_2 l0_3) else (spec_CloseSpace.j0 k l1 true l0_0 l0_1 l0_2 l0_3)) = some (r1,r2):=H
  have A5:=Aside0.mk A50
  clear A50
  by_cases c6 : t212 = true
  ·subst c6
   have H1 : (spec_CloseSpace.j0 k l1 ((l1.length : Int) != 128) l0_0 l0_1 l0_2 l0_3) = some (r1,r2):=by rw [if_pos rfl] at H;exact H
   clear H
   have H:=H1
   clear H1
   have H':=Aside0.mk H
   clear H
   have hcz7_0 : w4.cell? ⟨gb211,0,none⟩ = some (.slice A0_0 l0_0.length c0_0):=(blk_cell BK211.out 0).trans rfl
   have hcz7_1 : w4.cell? ⟨gb211,1,none⟩ = some (.slice A0_1 l0_1.length c0_1):=(blk_cell BK211.out 1).trans rfl
   have hcz7_2 : w4.cell? ⟨gb211,2,none⟩ = some (.slice A0_2 l0_2.length c0_2):=(blk_cell BK211.out 2).trans rfl
   have hcz7_3 : w4.cell? ⟨gb211,3,none⟩ = some (.slice A0_3 l0_3.length c0_3):=(blk_cell BK211.out 3).trans rfl
   have hfz7_0:=blk_frozen BK211.out 0
   have hfz7_1:=blk_frozen BK211.out 1
   have hfz7_2:=blk_frozen BK211.out 2
   have hfz7_3:=blk_frozen BK211.out 3
   go_wp2_with (first|((with_reducible refine gate_callee (f:=11) rfl ?_);refine goesL_ (some 8) rfl rfl Try.func11 (by kernel_rfl) rfl #[.agg #[.slice A0_0 l0_0.length c0_0,.slice A0_1 l0_1.length c0_1,.slice A0_2 l0_2.length c0_2,.slice A0_3 l0_3.length c0_3]] rfl (by (try simp only [List.map_toArray,List.map_cons,List.map_nil]);first|done|rfl|(simp only [List.length_drop,List.length_take];rfl)) ?_;(with_reducible refine (spec_GoodSpace.calls k _ _ l0_0 _ _ l0_1 (fun k_=>k_ < w.heap.size) _ _ l0_2 (fun k_=>k_ < w.heap.size) _ _ l0_3 true _ ?side1 ?side2 ?side3 ?side4 ?side5 ?side6 A5.out).mono ?_);(case side1=>repeat (first|exact (Kd.C_below HR0_0.out HB.out)|(with_reducible first|apply Kd.C_alloc|apply Kd.C_drewN|apply Kd.C_drew)));(case side2=>exact HC0_0.out);(case side3=>repeat (first|exact (Kd.C_below HR0_1.out HB.out)|(with_reducible first|apply Kd.C_alloc|apply Kd.C_drewN|apply Kd.C_drew)));(case side4=>exact HC0_1.out);(case side5=>exact Kd.V_mk HC0_2.out (Kd.F_below (Kd.C_F (Kd.heap_int .i64) HR0_2.out) (by repeat (first|(with_reducible first|exact HB.out|apply below_alloc|apply pw_below_drewN|apply below_drew1|refine below_set ?_ GE211.out)|exact HB.out))));(case side6=>exact Kd.V_mk HC0_3.out (Kd.F_below (Kd.C_F (Kd.heap_int .i64) HR0_3.out) (by repeat (first|(with_reducible first|exact HB.out|apply below_alloc|apply pw_below_drewN|apply below_drew1|refine below_set ?_ GE211.out)|exact HB.out))));rintro e w8 ⟨rfl,hb⟩;refine ⟨_,rfl,?_⟩;have n0_:=Aside0.mk (blk_below (g:=gb211) (o:=.cells #[.slice A0_0 l0_0.length c0_0,.slice A0_1 l0_1.length c0_1,.slice A0_2 l0_2.length c0_2,.slice A0_3 l0_3.length c0_3] 29 (0,0)) (by (with_reducible repeat first|apply blk_drewN|apply blk_drew|apply blk_alloc);exact BK211.out) hb);have n1_:=Aside0.mk (below_step (by repeat (first|(with_reducible first|exact HB.out|apply below_alloc|apply pw_below_drewN|apply below_drew1|refine below_set ?_ GE211.out)|exact HB.out)) hb);clear BK211;clear HB;have BK211:=n0_;have HB:=n1_;clear n0_ n1_;(try clear hb);(try clear hb2);(try clear hk);(try clear hi)))
   go_meet
   case rel=>exact ⟨_,(((l1.length : Int) != 128)),(by first|rfl|(simp;done)|(simp [*];done)),H',⟨by first|omega|exact Nat.le_refl _⟩,⟨by (with_reducible repeat first|apply blk_drewN|apply blk_drew|apply blk_alloc);exact BK211.out⟩,⟨by repeat (first|(with_reducible first|exact HB.out|apply below_alloc|apply pw_below_drewN|apply below_drew1|refine below_set ?_ GE211.out)|exact HB.out)⟩⟩
  ·replace c6:=Bool.eq_false_iff.mpr c6
   subst c6
   have H1 : (spec_CloseSpace.j0 k l1 true l0_0 l0_1 l0_2 l0_3) = some (r1,r2):=by rw [if_neg (show ¬ (false = true) by decide)] at H;exact H
   clear H
   have H:=H1
   clear H1
   have H':=Aside0.mk H
   clear H
   have hcz9_0 : w4.cell? ⟨gb211,0,none⟩ = some (.slice A0_0 l0_0.length c0_0):=(blk_cell BK211.out 0).trans rfl
   have hcz9_1 : w4.cell? ⟨gb211,1,none⟩ = some (.slice A0_1 l0_1.length c0_1):=(blk_cell BK211.out 1).trans rfl
   have hcz9_2 : w4.cell? ⟨gb211,2,none⟩ = some (.slice A0_2 l0_2.length c0_2):=(blk_cell BK211.out 2).trans rfl
   have hcz9_3 : w4.cell? ⟨gb211,3,none⟩ = some (.slice A0_3 l0_3.length c0_3):=(blk_cell BK211.out 3).trans rfl
   have hfz9_0:=blk_frozen BK211.out 0
   have hfz9_1:=blk_frozen BK211.out 1
   have hfz9_2:=blk_frozen BK211.out 2
   have hfz9_3:=blk_frozen BK211.out 3
   go_wp2_with (first|((with_reducible refine gate_callee (f:=11) rfl ?_);refine goesL_ (some 8) rfl rfl Try.func11 (by kernel_rfl) rfl #[.agg #[.slice A0_0 l0_0.length c0_0,.slice A0_1 l0_1.length c0_1,.slice A0_2 l0_2.length c0_2,.slice A0_3 l0_3.length c0_3]] rfl (by (try simp only [List.map_toArray,List.map_cons,List.map_nil]);first|done|rfl|(simp only [List.length_drop,List.length_take];rfl)) ?_;(with_reducible refine (spec_GoodSpace.calls k _ _ l0_0 _ _ l0_1 (fun k_=>k_ < w.heap.size) _ _ l0_2 (fun k_=>k_ < w.heap.size) _ _ l0_3 false _ ?side1 ?side2 ?side3 ?side4 ?side5 ?side6 A5.out).mono ?_);(case side1=>repeat (first|exact (Kd.C_below HR0_0.out HB.out)|(with_reducible first|apply Kd.C_alloc|apply Kd.C_drewN|apply Kd.C_drew)));(case side2=>exact HC0_0.out);(case side3=>repeat (first|exact (Kd.C_below HR0_1.out HB.out)|(with_reducible first|apply Kd.C_alloc|apply Kd.C_drewN|apply Kd.C_drew)));(case side4=>exact HC0_1.out);(case side5=>exact Kd.V_mk HC0_2.out (Kd.F_below (Kd.C_F (Kd.heap_int .i64) HR0_2.out) (by repeat (first|(with_reducible first|exact HB.out|apply below_alloc|apply pw_below_drewN|apply below_drew1|refine below_set ?_ GE211.out)|exact HB.out))));(case side6=>exact Kd.V_mk HC0_3.out (Kd.F_below (Kd.C_F (Kd.heap_int .i64) HR0_3.out) (by repeat (first|(with_reducible first|exact HB.out|apply below_alloc|apply pw_below_drewN|apply below_drew1|refine below_set ?_ GE211.out)|exact HB.out))));rintro e w10 ⟨rfl,hb⟩;refine ⟨_,rfl,?_⟩;have n0_:=Aside0.mk (blk_below (g:=gb211) (o:=.cells #[.slice A0_0 l0_0.length c0_0,.slice A0_1 l0_1.length c0_1,.slice A0_2 l0_2.length c0_2,.slice A0_3 l0_3.length c0_3] 29 (0,0)) (by (with_reducible repeat first|apply blk_drewN|apply blk_drew|apply blk_alloc);exact BK211.out) hb);have n1_:=Aside0.mk (below_step (by repeat (first|(with_reducible first|exact HB.out|apply below_alloc|apply pw_below_drewN|apply below_drew1|refine below_set ?_ GE211.out)|exact HB.out)) hb);clear BK211;clear HB;have BK211:=n0_;have HB:=n1_;clear n0_ n1_;(try clear hb);(try clear hb2);(try clear hk);(try clear hi)))
   go_meet
   case rel=>exact ⟨_,(true),(by first|rfl|(simp;done)|(simp [*];done)),H',⟨by first|omega|exact Nat.le_refl _⟩,⟨by (with_reducible repeat first|apply blk_drewN|apply blk_drew|apply blk_alloc);exact BK211.out⟩,⟨by repeat (first|(with_reducible first|exact HB.out|apply below_alloc|apply pw_below_drewN|apply below_drew1|refine below_set ?_ GE211.out)|exact HB.out)⟩⟩
 case rest =>
  clear HC3
  try clear c1;try clear p2;try clear c3;try clear c6;try clear hcz7_0;try clear hcz7_1;try clear hcz7_2;try clear hcz7_3;try clear hcz9_0;try clear hcz9_1;try clear hcz9_2;try clear hcz9_3;try clear hfz7_0;try clear hfz7_1;try clear hfz7_2;try clear hfz7_3;try clear hfz9_0;try clear hfz9_1;try clear hfz9_2;try clear hfz9_3
  obtain ⟨kq,x14_2,rfl,HA,HJ2,BK211,HB⟩:=hcut
  cases kq with
  | zero=>exact absurd HA.out (by simp [spec_CloseSpace.j0])
  | succ kj2 =>
   have H:=HA.out
   clear HA
   simp only [spec_CloseSpace.j0] at H
   by_cases c11 : x14_2 = true
   ·subst c11
    have H1 : (some (([] : List (S91)),false)) = some (r1,r2):=by rw [if_pos rfl] at H;exact H
    clear H
    have H:=H1
    clear H1
    simp only [Option.some.injEq,Prod.mk.injEq] at H
    obtain ⟨rfl,rfl⟩:=H
    go_wp2
    go_ret2
    exact ⟨_,by first|rfl|(simp [*,errW_none,errW_some] <;> rfl),by first|exact Kd.S_nil _ _ _ _ _|exact Kd.N_nil _ _ _ _ _|exact Kd.V_nil _ _ _ _ _|exact Kd.Q_nil _ _ _ _ _|exact Kd.R_nil _ _ _ _ _,by repeat (first|(with_reducible first|exact HB.out|apply below_alloc|apply pw_below_drewN|apply below_drew1|refine below_set ?_ GE211.out)|exact HB.out)⟩
   ·replace c11:=Bool.eq_false_iff.mpr c11
    subst c11
    have H1 : ((spec_l5Close.f kj2 l0_0 l0_1 l0_2 l0_3 l1).bind fun t213=>(if (t213.length : Int) > 30 then (some (([] : List (S91)),false)) else (some (t213,true)))) = some (r1,r2):=by rw [if_neg (show ¬ (false = true) by decide)] at H;exact H
    clear H
    have H:=H1
    clear H1
    replace H:=Option.bind_eq_some_iff.mp H
    obtain ⟨t213,A120,H⟩:=H
    replace H : (if (t213.length : Int) > 30 then (some (([] : List (S91)),false)) else (some (t213,true))) = some (r1,r2):=H
    have A12:=Aside0.mk A120
    clear A120
    by_cases c13 : (t213.length : Int) > 30
    ·rw [if_pos c13] at H
     have c13b0 : decide (30 < (t213.length : Int)) = true:=decide_eq_true c13
     have c13b1 : decide (30 < t213.length) = true:=decide_eq_true (by omega)
     clear c13
     simp only [Option.some.injEq,Prod.mk.injEq] at H
     obtain ⟨rfl,rfl⟩:=H
     have hcz14_0 : wc.cell? ⟨gb211,0,none⟩ = some (.slice A0_0 l0_0.length c0_0):=(blk_cell BK211.out 0).trans rfl
     have hcz14_1 : wc.cell? ⟨gb211,1,none⟩ = some (.slice A0_1 l0_1.length c0_1):=(blk_cell BK211.out 1).trans rfl
     have hcz14_2 : wc.cell? ⟨gb211,2,none⟩ = some (.slice A0_2 l0_2.length c0_2):=(blk_cell BK211.out 2).trans rfl
     have hcz14_3 : wc.cell? ⟨gb211,3,none⟩ = some (.slice A0_3 l0_3.length c0_3):=(blk_cell BK211.out 3).trans rfl
     have hfz14_0:=blk_frozen BK211.out 0
     have hfz14_1:=blk_frozen BK211.out 1
     have hfz14_2:=blk_frozen BK211.out 2
     have hfz14_3:=blk_frozen BK211.out 3
     go_wp2_with (first|((with_reducible refine gate_callee (f:=73) rfl ?_);refine goesL_ (some 17) rfl rfl Try.func73 (by kernel_rfl) rfl #[.agg #[.slice A0_0 l0_0.length c0_0,.slice A0_1 l0_1.length c0_1,.slice A0_2 l0_2.length c0_2,.slice A0_3 l0_3.length c0_3],.slice A1 l1.length c1] rfl (by (try simp only [List.map_toArray,List.map_cons,List.map_nil]);first|done|rfl|(simp only [List.length_drop,List.length_take];rfl)) ?_;(with_reducible refine (spec_l5Close.calls kj2 _ _ l0_0 _ _ l0_1 _ _ l0_2 _ _ l0_3 _ _ l1 t213 _ ?side1 ?side2 ?side3 ?side4 ?side5 ?side6 ?side7 ?side8 ?side9 ?side10 A12.out).mono ?_);(case side1=>repeat (first|exact (Kd.C_below HR0_0.out HB.out)|(with_reducible first|apply Kd.C_alloc|apply Kd.C_drewN|apply Kd.C_drew)));(case side2=>exact HC0_0.out);(case side3=>repeat (first|exact (Kd.C_below HR0_1.out HB.out)|(with_reducible first|apply Kd.C_alloc|apply Kd.C_drewN|apply Kd.C_drew)));(case side4=>exact HC0_1.out);(case side5=>repeat (first|exact (Kd.C_below HR0_2.out HB.out)|(with_reducible first|apply Kd.C_alloc|apply Kd.C_drewN|apply Kd.C_drew)));(case side6=>exact HC0_2.out);(case side7=>repeat (first|exact (Kd.C_below HR0_3.out HB.out)|(with_reducible first|apply Kd.C_alloc|apply Kd.C_drewN|apply Kd.C_drew)));(case side8=>exact HC0_3.out);(case side9=>repeat (first|exact (Kd.C_below HR1.out HB.out)|(with_reducible first|apply Kd.C_alloc|apply Kd.C_drewN|apply Kd.C_drew)));(case side10=>exact HC1.out);rintro e w15 ⟨v214,rfl,ho0,hb⟩;refine ⟨_,rfl,?_⟩;have n0_:=Aside0.mk (Kd.S_lower ho0 (below_size (by repeat (first|(with_reducible first|exact HB.out|apply below_alloc|apply pw_below_drewN|apply below_drew1|refine below_set ?_ GE211.out)|exact HB.out))));have n1_:=Aside0.mk (blk_below (g:=gb211) (o:=.cells #[.slice A0_0 l0_0.length c0_0,.slice A0_1 l0_1.length c0_1,.slice A0_2 l0_2.length c0_2,.slice A0_3 l0_3.length c0_3] 29 (0,0)) (by (with_reducible repeat first|apply blk_drewN|apply blk_drew|apply blk_alloc);exact BK211.out) hb);have n2_:=Aside0.mk (below_step (by repeat (first|(with_reducible first|exact HB.out|apply below_alloc|apply pw_below_drewN|apply below_drew1|refine below_set ?_ GE211.out)|exact HB.out)) hb);clear BK211;clear HB;have HO215:=n0_;have BK211:=n1_;have HB:=n2_;clear n0_ n1_ n2_;(try clear hb);(try clear hb2);(try clear hk);(try clear hi);(try clear ho0);obtain ⟨Ao16,co16,eo16⟩:=Kd.S_slice HO215.out;subst eo16))
     go_ret2
     exact ⟨_,by first|rfl|(simp [*,errW_none,errW_some] <;> rfl),by first|exact Kd.S_nil _ _ _ _ _|exact Kd.N_nil _ _ _ _ _|exact Kd.V_nil _ _ _ _ _|exact Kd.Q_nil _ _ _ _ _|exact Kd.R_nil _ _ _ _ _,by repeat (first|(with_reducible first|exact HB.out|apply below_alloc|apply pw_below_drewN|apply below_drew1|refine below_set ?_ GE211.out)|exact HB.out)⟩
    ·rw [if_neg c13] at H
     have c13b0 : decide (30 < (t213.length : Int)) = false:=decide_eq_false c13
     have c13b1 : decide (30 < t213.length) = false:=decide_eq_false (by omega)
     clear c13
     simp only [Option.some.injEq,Prod.mk.injEq] at H
     obtain ⟨rfl,rfl⟩:=H
     have hcz17_0 : wc.cell? ⟨gb211,0,none⟩ = some (.slice A0_0 l0_0.length c0_0):=(blk_cell BK211.out 0).trans rfl
     have hcz17_1 : wc.cell? ⟨gb211,1,none⟩ = some (.slice A0_1 l0_1.length c0_1):=(blk_cell BK211.out 1).trans rfl
     have hcz17_2 : wc.cell? ⟨gb211,2,none⟩ = some (.slice A0_2 l0_2.length c0_2):=(blk_cell BK211.out 2).trans rfl
     have hcz17_3 : wc.cell? ⟨gb211,3,none⟩ = some (.slice A0_3 l0_3.length c0_3):=(blk_cell BK211.out 3).trans rfl
     have hfz17_0:=blk_frozen BK211.out 0
     have hfz17_1:=blk_frozen BK211.out 1
     have hfz17_2:=blk_frozen BK211.out 2
     have hfz17_3:=blk_frozen BK211.out 3
     go_wp2_with (first|((with_reducible refine gate_callee (f:=73) rfl ?_);refine goesL_ (some 17) rfl rfl Try.func73 (by kernel_rfl) rfl #[.agg #[.slice A0_0 l0_0.length c0_0,.slice A0_1 l0_1.length c0_1,.slice A0_2 l0_2.length c0_2,.slice A0_3 l0_3.length c0_3],.slice A1 l1.length c1] rfl (by (try simp only [List.map_toArray,List.map_cons,List.map_nil]);first|done|rfl|(simp only [List.length_drop,List.length_take];rfl)) ?_;(with_reducible refine (spec_l5Close.calls kj2 _ _ l0_0 _ _ l0_1 _ _ l0_2 _ _ l0_3 _ _ l1 t213 _ ?side1 ?side2 ?side3 ?side4 ?side5 ?side6 ?side7 ?side8 ?side9 ?side10 A12.out).mono ?_);(case side1=>repeat (first|exact (Kd.C_below HR0_0.out HB.out)|(with_reducible first|apply Kd.C_alloc|apply Kd.C_drewN|apply Kd.C_drew)));(case side2=>exact HC0_0.out);(case side3=>repeat (first|exact (Kd.C_below HR0_1.out HB.out)|(with_reducible first|apply Kd.C_alloc|apply Kd.C_drewN|apply Kd.C_drew)));(case side4=>exact HC0_1.out);(case side5=>repeat (first|exact (Kd.C_below HR0_2.out HB.out)|(with_reducible first|apply Kd.C_alloc|apply Kd.C_drewN|apply Kd.C_drew)));(case side6=>exact HC0_2.out);(case side7=>repeat (first|exact (Kd.C_below HR0_3.out HB.out)|(with_reducible first|apply Kd.C_alloc|apply Kd.C_drewN|apply Kd.C_drew)));(case side8=>exact HC0_3.out);(case side9=>repeat (first|exact (Kd.C_below HR1.out HB.out)|(with_reducible first|apply Kd.C_alloc|apply Kd.C_drewN|apply Kd.C_drew)));(case side10=>exact HC1.out);rintro e w18 ⟨v214,rfl,ho0,hb⟩;refine ⟨_,rfl,?_⟩;have n0_:=Aside0.mk (Kd.S_lower ho0 (below_size (by repeat (first|(with_reducible first|exact HB.out|apply below_alloc|apply pw_below_drewN|apply below_drew1|refine below_set ?_ GE211.out)|exact HB.out))));have n1_:=Aside0.mk (blk_below (g:=gb211) (o:=.cells #[.slice A0_0 l0_0.length c0_0,.slice A0_1 l0_1.length c0_1,.slice A0_2 l0_2.length c0_2,.slice A0_3 l0_3.length c0_3] 29 (0,0)) (by (with_reducible repeat first|apply blk_drewN|apply blk_drew|apply blk_alloc);exact BK211.out) hb);have n2_:=Aside0.mk (below_step (by repeat (first|(with_reducible first|exact HB.out|apply below_alloc|apply pw_below_drewN|apply below_drew1|refine below_set ?_ GE211.out)|exact HB.out)) hb);clear BK211;clear HB;have HO215:=n0_;have BK211:=n1_;have HB:=n2_;clear n0_ n1_ n2_;(try clear hb);(try clear hb2);(try clear hk);(try clear hi);(try clear ho0);obtain ⟨Ao19,co19,eo19⟩:=Kd.S_slice HO215.out;subst eo19))
     go_ret2
     exact ⟨_,by first|rfl|(simp [*,errW_none,errW_some] <;> rfl),by (with_reducible repeat (first|apply Kd.S_alloc|apply Kd.S_drewN|apply Kd.S_drew));exact HO215.out,by repeat (first|(with_reducible first|exact HB.out|apply below_alloc|apply pw_below_drewN|apply below_drew1|refine below_set ?_ GE211.out)|exact HB.out)⟩

/-! ### impl_within: function 76 -/
def impl_within.f (a0 : Int) (a1 : Int) (a2 : Int) : Option (Bool):=if a1 ≤ a0 then (some (decide (a0 ≤ a2))) else (some false)
set_option maxHeartbeats 8000000 in
set_option maxRecDepth 100000 in
theorem impl_within.calls (a0 : Int) (a1 : Int) (a2 : Int) (r : Bool) (w : World) (h : impl_within.f a0 a1 a2 = some r) :
  Calls Try.prog 76 #[.int .i64 a0,.int .i64 a1,.int .i64 a2] w fun e w'=>e = .returned (.bool r)∧Drawn0 w w':=by
 have H : (if a1 ≤ a0 then (some (decide (a0 ≤ a2))) else (some false)) = some r:=h
 clear h
 by_cases c4 : a1 ≤ a0
 ·rw [if_pos c4] at H
  have c4b0 : decide (a1 ≤ a0) = true:=decide_eq_true c4
  clear c4
  obtain rfl:=Option.some.inj H
  go_enter Try.func76,Try.ntmps76
  go_wp2
  go_ret
  exact ⟨by first|rfl|(simp;done)|(simp [*];done),by repeat (first|exact Drawn0.refl _|apply Drawn0.step)⟩
 ·rw [if_neg c4] at H
  have c4b0 : decide (a1 ≤ a0) = false:=decide_eq_false c4
  clear c4
  obtain rfl:=Option.some.inj H
  go_enter Try.func76,Try.ntmps76
  go_wp2
  go_ret
  exact ⟨by first|rfl|(simp;done)|(simp [*];done),by repeat (first|exact Drawn0.refl _|apply Drawn0.step)⟩

/-! ### impl_areBlocks_1: function 78 -/
def impl_areBlocks_1.f (l0 : List Int) : Option (Bool):=some ((l0.length : Int) != 128)
set_option maxHeartbeats 8000000 in
set_option maxRecDepth 100000 in
theorem impl_areBlocks_1.calls (A0 : Option Addr) (c0 : Nat) (l0 : List Int) (r : Bool) (w : World) (hr0 : Kd.C (Kd.int .u8) w A0 l0.length l0) (hc0 : l0.length ≤ c0) (h : impl_areBlocks_1.f l0 = some r) :
  Calls Try.prog 78 #[.slice A0 l0.length c0] w fun e w'=>e = .returned (.bool r)∧Drawn0 w w':=by
 have HR0:=Aside0.mk hr0
 have HC0:=Aside0.mk hc0
 clear hr0 hc0
 have H : (some ((l0.length : Int) != 128)) = some r:=h
 clear h
 obtain rfl:=Option.some.inj H
 go_enter Try.func78,Try.ntmps78
 go_wp2
 go_ret
 exact ⟨by first|rfl|(simp;done)|(simp [*];done),by repeat (first|exact Drawn0.refl _|apply Drawn0.step)⟩

end Go.Proofs.Ytlphbpaojcdjaaa.PFnExactCloseSpace
