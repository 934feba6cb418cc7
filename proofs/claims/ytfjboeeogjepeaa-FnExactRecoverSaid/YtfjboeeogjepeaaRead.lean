import Derived.Test.YtfjboeeogjepeaaWMore
import Derived.Deep.Slices
import Derived.ChangeArms
import Derived.Deep.Fields
namespace Go.Proofs.Ytfjboeeogjepeaa.Read
open Go Go.RowKit Go.ChangeShapes Go.WideShapes Go.Deep Go.Proofs.YtfjboeeogjepeaaW.PrintWords
structure Opens (P : Program) (W : World) (t : TypeId) {α : Type} (d : Kd α) (wf : α → Prop) : Prop where
  sz : P.cellsOf t = d.sz
  op : ∀ {H : Type} (enc : TypeId × Value → H) (fuel : Nat) (cs : List Value) (x : DataW H × List MemPlace), DataW.trod enc P W 0 (fun _ => true) true fuel t cs = some x → ∃ a : α, d.K W a cs ∧ wf a
section
variable {P : Program} {W : World} {t e : TypeId}
theorem opens_int {k : IntKind} (ht : P.underlying t = some (.int k)) (hc : P.cellsOf t = 1) : Opens P W t (Kd.int k) (fun n => (Lit.int k n).wf = true) :=
  ⟨hc, fun enc fuel cs x h => by
    obtain ⟨n, rfl, _, hw⟩ := DataW.trod_int ht h
    exact ⟨n, rfl, hw⟩⟩
theorem opens_bool (ht : P.underlying t = some .bool) (hc : P.cellsOf t = 1) : Opens P W t Kd.bool (fun _ => True) :=
  ⟨hc, fun enc fuel cs x h => by
    obtain ⟨b, rfl, _⟩ := DataW.trod_bool ht h
    exact ⟨b, rfl, trivial⟩⟩
theorem opens_slice {α : Type} [Inhabited α] {d : Kd α} {wf : α → Prop} (ht : P.underlying t = some (.slice e)) (hc : P.cellsOf t = 1) (he : Opens P W e d wf) :
    Opens P W t (Kd.slice e d) (fun xs => xs.length ≤ maxLen ∧ ∀ x ∈ xs, wf x) :=
  ⟨hc, fun enc fuel cs x h => by
    rcases open_slice ht h with ⟨rfl, _⟩ | ⟨a, len, cap, m, n, D, Pl, rfl, _, hl, hm, hmm, _, hx⟩
    · exact ⟨[], ⟨none, 0, rfl, Nat.le_refl _, rfl, by simp, fun h => by simp at h⟩, by simp, by simp⟩
    · have hm' : m = cap := by simpa using hmm
      subst hm'
      obtain ⟨f, hf⟩ := choose_lt (α := α) (n := len) (p := fun i v => ∃ cs', W.cells? 0 (a.add (i * P.cellsOf e)) (P.cellsOf e) = some cs' ∧ d.K W v cs' ∧ wf v) (fun i hi => by
        obtain ⟨cs', h1, h2⟩ := hx i (by omega)
        obtain ⟨v, hv, hw⟩ := he.op enc n cs' _ h2
        exact ⟨v, cs', h1, hv, hw⟩)
      have hlen : ((List.range len).map f).length = len := by simp
      refine ⟨(List.range len).map f, ⟨some a, m, by rw [hlen], by rw [hlen]; exact hl, rfl, by rw [hlen]; simp only [maxLen] at hm; omega, fun _ => ⟨a, rfl, fun j p hj => ?_⟩⟩, by rw [hlen]; omega, fun x hx => ?_⟩
      · have hjl : j < len := by have := (List.getElem?_eq_some_iff.1 hj).1; rwa [hlen] at this
        have hp : p = f j := by simpa [hjl] using hj.symm
        subst hp
        obtain ⟨cs', h1, h2, _⟩ := hf j hjl
        obtain ⟨_, hcl, hat⟩ := World.cells?_some h1
        refine ⟨cs', hcl.trans he.sz, h2, fun i u hu => ?_⟩
        have hi : i < P.cellsOf e := by have := (List.getElem?_eq_some_iff.1 hu).1; omega
        have := hat i hi
        rw [hu, Go.Deep.add_add, he.sz] at this
        exact this
      · obtain ⟨i, hi, rfl⟩ := List.mem_map.1 hx
        obtain ⟨_, _, _, hw⟩ := hf i (List.mem_range.1 hi)
        exact hw⟩
theorem opens_struct4 {α0 α1 α2 α3 β : Type} {d0 : Kd α0} {wf0 : α0 → Prop} {d1 : Kd α1} {wf1 : α1 → Prop} {d2 : Kd α2} {wf2 : α2 → Prop} {d3 : Kd α3} {wf3 : α3 → Prop} {f0 f1 f2 f3 : Field} {f : β → α0 × (α1 × (α2 × α3))} (g : (α0 × (α1 × (α2 × α3))) → β) (ht : P.underlying t = some (.struct #[f0, f1, f2, f3])) (hc : P.cellsOf t = d0.sz + (d1.sz + (d2.sz + d3.sz))) (o0 : f0.offset = 0) (o1 : f1.offset = d0.sz) (o2 : f2.offset = d0.sz + d1.sz) (o3 : f3.offset = d0.sz + d1.sz + d2.sz) (h0 : Opens P W f0.type d0 wf0) (h1 : Opens P W f1.type d1 wf1) (h2 : Opens P W f2.type d2 wf2) (h3 : Opens P W f3.type d3 wf3) (hfg : ∀ x, f (g x) = x) :
    Opens P W t (Kd.iso (Kd.pair d0 (Kd.pair d1 (Kd.pair d2 d3))) f) (fun b => wf0 (f b).1 ∧ wf1 (f b).2.1 ∧ wf2 (f b).2.2.1 ∧ wf3 (f b).2.2.2) :=
  ⟨hc, fun enc fuel cs x h => by
    obtain ⟨xs, n, _, _, hl, hlen, hf⟩ := DataW.trod_struct ht h
    match xs, hlen with
    | [y0, y1, y2, y3], _ =>
      have t0 := hf 0 f0 rfl
      rw [o0, h0.sz] at t0
      obtain ⟨a0, k0, w0⟩ := h0.op enc n _ _ t0
      have t1 := hf 1 f1 rfl
      rw [o1, h1.sz] at t1
      obtain ⟨a1, k1, w1⟩ := h1.op enc n _ _ t1
      have t2 := hf 2 f2 rfl
      rw [o2, h2.sz] at t2
      obtain ⟨a2, k2, w2⟩ := h2.op enc n _ _ t2
      have t3 := hf 3 f3 rfl
      rw [o3, h3.sz] at t3
      obtain ⟨a3, k3, w3⟩ := h3.op enc n _ _ t3
      refine ⟨g (a0, a1, a2, a3), ?_, by simp only [hfg]; exact ⟨w0, w1, w2, w3⟩⟩
      rw [hc] at hl
      show Kd.K (Kd.pair d0 (Kd.pair d1 (Kd.pair d2 d3))) W (f (g (a0, a1, a2, a3))) cs
      rw [hfg]
      have e : cs = (cs.drop (0)).take d0.sz ++ ((cs.drop (d0.sz)).take d1.sz ++ ((cs.drop (d0.sz + d1.sz)).take d2.sz ++ ((cs.drop (d0.sz + d1.sz + d2.sz)).take d3.sz))) := by
        have q3 : (cs.drop (d0.sz + d1.sz + d2.sz)).take d3.sz = cs.drop (d0.sz + d1.sz + d2.sz) := List.take_of_length_le (by rw [List.length_drop]; omega)
        rw [q3]
        have r2 : (cs.drop (d0.sz + d1.sz)).take d2.sz ++ cs.drop (d0.sz + d1.sz + d2.sz) = cs.drop (d0.sz + d1.sz) := by
          have := List.take_append_drop d2.sz (cs.drop (d0.sz + d1.sz))
          rw [List.drop_drop] at this
          first | exact this | (rw [Nat.zero_add] at this; exact this)
        rw [r2]
        have r1 : (cs.drop (d0.sz)).take d1.sz ++ cs.drop (d0.sz + d1.sz) = cs.drop (d0.sz) := by
          have := List.take_append_drop d1.sz (cs.drop (d0.sz))
          rw [List.drop_drop] at this
          first | exact this | (rw [Nat.zero_add] at this; exact this)
        rw [r1]
        have r0 : (cs.drop (0)).take d0.sz ++ cs.drop (d0.sz) = cs.drop (0) := by
          have := List.take_append_drop d0.sz (cs.drop (0))
          rw [List.drop_drop] at this
          first | exact this | (rw [Nat.zero_add] at this; exact this)
        rw [r0]
        rfl
      rw [e]
      exact ⟨_, _, rfl, k0, ⟨_, _, rfl, k1, ⟨_, _, rfl, k2, k3⟩⟩⟩⟩
end
end Go.Proofs.Ytfjboeeogjepeaa.Read
