/-
The pure statement of FnExactNeedForRecord: the printed functions of the program and of the reference answer alike for every argument within the bounds that the statement tells.
-/
import Derived.Test.YtgeobmfiblgkgaaWfFnExactNeedForRecord
namespace Go.Proofs.Ytgeobmfiblgkgaa.Pure
open Go Go.RowKit Go.Proofs.Ytgeobmfiblgkgaa.PFnExactNeedForRecord Go.Proofs.YtgeobmfiblgkgaaW.PrintWords Go.Proofs.YtgeobmfiblgkgaaW.PrintLast Go.Proofs.YtgeobmfiblgkgaaW.PrintMore Go.Proofs.Ytgeobmfiblgkgaa.Lib
set_option linter.unusedVariables false
set_option linter.unusedSimpArgs false
namespace OfFnExactNeedForRecord
theorem toByteS_ev (l : List Int) (hl : l.length ≤ 1048576) : Ev (fun k => laws_toByteS.f k l) l := by
  have h := fill_ev (g := fun k x i => laws_toByteS.l0 k l x i) l 0 (fun x => x)
    (fun x i hx hi hr => Ev_succ (by
      simp only [laws_toByteS.l0]
      refine Ev_t (by omega) (Ev_t (by omega) (Ev_t (by omega) ?_))
      rw [w64_succ hi (by omega)]
      simpa [rd_nat] using hr))
    (fun x hx => Ev_succ (by simp only [laws_toByteS.l0]; exact Ev_f (by omega) (Ev.now _)))
    (List.replicate l.length 0) (by simp)
  rw [map_same] at h
  refine Ev.congr (fun k => ?_) h
  simp only [laws_toByteS.f]
  rw [if_pos (by omega), if_pos (by simp; omega)]
  simp

theorem eqByteS_ev (l : List Int) (hl : l.length ≤ 4611686018427387904) : Ev (fun k => laws_eqByteS.f k l l) true := by
  have h := all_ev (g := fun k i => laws_eqByteS.l0 k l l i) (r := true) l.length
    (fun i hi hr => Ev_succ (by
      simp only [laws_eqByteS.l0]
      refine Ev_t (by omega) (Ev_t (by omega) (Ev_t (by omega) (Ev_t trivial ?_)))
      rw [w64_succ hi (by omega)]; exact hr))
    (Ev_succ (by simp only [laws_eqByteS.l0]; exact Ev_f (by omega) (Ev.now _)))
  refine Ev.congr (fun k => ?_) h
  simp only [laws_eqByteS.f]; rw [if_pos trivial]

theorem same (l : List Int) (hl : l.length ≤ 1048576) : spec_NeedForRecord.f l = impl_NeedForRecord.f l ∧ ∃ r, impl_NeedForRecord.f l = some r := by
  simp only [spec_NeedForRecord.f, impl_NeedForRecord.f, spec_l7Need.f, impl_needRecord.f]
  by_cases c : (l.length : Int) > 1000
  · simp [c]
  · simp only [if_neg c]
    by_cases c2 : (l.length : Int) = 0
    · simp [c2, wrap64, mx]
    · have w1 : wrap64 ((l.length : Int) + 124) = (l.length : Int) + 124 := w64 (by omega) (by omega)
      have w2 : wrap64 (((l.length : Int) + 124) - 1) = (l.length : Int) + 123 := by rw [w64 (by omega) (by omega)]; omega
      have w3 : wrap64 (Int.tdiv ((l.length : Int) + 123) 124) = ((l.length : Int) + 123) / 124 := by
        rw [Int.tdiv_eq_ediv_of_nonneg (by omega), w64 (by omega) (by omega)]
      have w4 : wrap64 (((l.length : Int) + 123) / 124) = ((l.length : Int) + 123) / 124 := w64 (by omega) (by omega)
      simp only [w1, w2, w3, w4, if_neg c2, mx, Option.bind_some]
      rw [if_neg (show ¬ ((l.length : Int) + 123) / 124 < 1 by omega)]
      exact ⟨rfl, _, rfl⟩
end OfFnExactNeedForRecord
open OfFnExactNeedForRecord
theorem FnExactNeedForRecord : Stated := by
  intro l _
  refine Ev.rounds ?_
  simp only [laws_FnExactNeedForRecord.f]
  refine Ev_ite (fun _ => Ev.now _) (fun c => ?_)
  have hl : l.length ≤ 1048576 := by omega
  obtain ⟨e, r, hr⟩ := same l hl
  refine Ev.bind (toByteS_ev l hl) (Ev_bind0 (e.trans hr) (Ev.bind (toByteS_ev l hl) (Ev_bind0 hr (Ev_t rfl (Ev.bind (toByteS_ev l hl) (Ev.bind (eqByteS_ev l (by omega)) (Ev.now _)))))))
end Go.Proofs.Ytgeobmfiblgkgaa.Pure
