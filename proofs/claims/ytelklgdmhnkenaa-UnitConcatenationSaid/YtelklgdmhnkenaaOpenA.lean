/- How the arguments of the laws read: as numbers and lists. -/
import Derived.Test.YtelklgdmhnkenaaUx0
import Derived.Deep.Slices
import Derived.Deep.Fields
import Derived.ProofKit
import Derived.OpenShut
import Derived.ChangeOld
import Derived.SizedLaws
namespace Go.Proofs.Ytelklgdmhnkenaa.U
open Go.RowKit Go.Proofs.YtelklgdmhnkenaaW.PrintWords Go.Proofs.YtelklgdmhnkenaaW.PrintLast Go.Proofs.YtelklgdmhnkenaaW.PrintMore
open Go.ChangeShapes Go.WideShapes Go.Deep
set_option linter.unusedVariables false
set_option linter.unusedSimpArgs false
section
variable {H : Type} {enc : TypeId × Value → H} {P : Program} {w : World} {base : Nat} {spare : Nat → Bool} {held : Bool}

/-- What can be read at type t is of kind d, and Q holds of it. -/
def Opens (enc : TypeId × Value → H) (P : Program) (w : World) (base : Nat) (spare : Nat → Bool) (held : Bool) {α : Type} (d : Kd α) (Q : α → Prop) (t : TypeId) : Prop :=
  ∀ (fuel : Nat) (cs : List Value) (x : DataW H × List MemPlace), DataW.trod enc P w base spare held fuel t cs = some x → ∃ y, d.K w y cs ∧ Q y
theorem opens_int {t : TypeId} {k : IntKind} (ht : P.underlying t = some (.int k)) : Opens enc P w base spare held (Kd.int k) (fun n => (Lit.int k n).wf = true) t := by
  intro fuel cs x h
  obtain ⟨n, hc, _, hw⟩ := DataW.trod_int ht h
  exact ⟨n, hc, hw⟩
theorem opens_bool {t : TypeId} (ht : P.underlying t = some .bool) : Opens enc P w base spare held Kd.bool (fun _ => True) t := by
  intro fuel cs x h
  obtain ⟨b, hc, _⟩ := DataW.trod_bool ht h
  exact ⟨b, hc, trivial⟩
/-- A list of the elements that can be read. -/
theorem list_of {α : Type} (m : Nat) (R : Nat → α → Prop) (h : ∀ i, i < m → ∃ y, R i y) : ∃ l : List α, l.length = m ∧ ∀ i y, l[i]? = some y → R i y := by
  induction m with
  | zero => exact ⟨[], rfl, fun i y hy => by simp at hy⟩
  | succ m ih =>
    obtain ⟨l, hl, hr⟩ := ih (fun i hi => h i (by omega))
    obtain ⟨y, hy⟩ := h m (by omega)
    refine ⟨l ++ [y], by simp [hl], fun i z hz => ?_⟩
    rcases Nat.lt_or_ge i l.length with hi | hi
    · rw [List.getElem?_append_left hi] at hz
      exact hr i z hz
    · have : i = m := by
        have := (List.getElem?_eq_some_iff.1 hz).1
        simp at this
        omega
      subst this
      rw [← hl] at hz ⊢
      have : y = z := by simpa using hz
      subst this
      rw [hl]
      exact hy
theorem opens_slice {α : Type} {d : Kd α} {Q : α → Prop} {t e : TypeId} (ht : P.underlying t = some (.slice e)) (he : Opens enc P w base spare held d Q e) (hC : P.cellsOf e = d.sz) :
    Opens enc P w base spare held (Kd.slice e d) (fun l => ∀ y ∈ l, Q y) t := by
  intro fuel cs x h
  rcases open_slice ht h with ⟨rfl, _⟩ | ⟨a, len, cap, m, n, D, Pl, rfl, _, hl, hm, hmm, _, hi⟩
  · exact ⟨[], ⟨none, 0, rfl, Nat.le_refl _, rfl, by simp, fun h => absurd h (by simp)⟩, fun y hy => by cases hy⟩
  · have hlm : len ≤ m := by rw [hmm]; split <;> omega
    obtain ⟨l, hll, hr⟩ := list_of len (fun i y => Q y ∧ ∃ cs', d.K w y cs' ∧ ∀ j u, cs'[j]? = some u → w.cell? (a.add (i * d.sz + j)) = some u) (fun i hil => by
      obtain ⟨cs', hc, htr⟩ := hi i (by omega)
      obtain ⟨y, hK, hQ⟩ := he _ _ _ htr
      rw [hC] at hc
      obtain ⟨_, hcl, hat⟩ := World.cells?_some hc
      refine ⟨y, hQ, cs', hK, fun j u hj => ?_⟩
      have hj' : j < d.sz := by have := (List.getElem?_eq_some_iff.1 hj).1; omega
      rw [← Go.Deep.add_add, hat j hj', hj])
    subst hll
    refine ⟨l, ⟨some a, cap, rfl, hl, rfl, by simp only [maxLen] at hm; omega, fun _ => ⟨a, rfl, fun j p hj => ?_⟩⟩, fun y hy => ?_⟩
    · obtain ⟨_, cs', hK, hat⟩ := hr j p hj
      exact ⟨cs', d.K_len hK, hK, hat⟩
    · obtain ⟨i, hi⟩ := List.getElem?_of_mem hy
      exact (hr i y hi).1
theorem struct_cells {fs : Array Field} {t : TypeId} {fuel : Nat} {cs : List Value} {x : DataW H × List MemPlace} (ht : P.underlying t = some (.struct fs)) (hone : oneCellFields P fs = true) (h : DataW.trod enc P w base spare held fuel t cs = some x) :
    cs.length = P.cellsOf t ∧ ∀ (i : Nat) (f : Field), fs[i]? = some f → i < cs.length → ∃ n y v, cs[i]? = some v ∧ DataW.trod enc P w base spare held n f.type [v] = some y := by
  obtain ⟨ys, n, _, _, hlen, hyl, hf⟩ := DataW.trod_struct ht h
  refine ⟨hlen, fun i f hi hlt => ?_⟩
  obtain ⟨ho, hk⟩ := hone_of hone i f hi
  have h1 := hf i f hi
  rw [ho, hk, List.drop_eq_getElem_cons hlt] at h1
  have hiy : i < ys.length := by rw [hyl]; exact (Array.getElem?_eq_some_iff.1 hi).1
  rw [List.getElem?_eq_getElem hiy] at h1
  exact ⟨n, _, cs[i], List.getElem?_eq_getElem hlt, h1⟩
end
def wfI (n : Int) : Prop := -9223372036854775808 ≤ n ∧ n ≤ 9223372036854775807
theorem wfI_of {n : Int} (h : (Lit.int .i64 n).wf = true) : wfI n := bounds_i64 h
section
variable {H : Type} {enc : TypeId × Value → H} {w : World} {base : Nat} {spare : Nat → Bool} {held : Bool}
theorem open_i {t : TypeId} {n : Nat} {v : Value} {y : DataW H × List MemPlace} (ht : Try.prog.underlying t = some (.int .i64)) (h : DataW.trod enc Try.prog w base spare held n t [v] = some y) : ∃ a : Int, v = .int .i64 a ∧ wfI a := by
  obtain ⟨a, e, w0⟩ := opens_int ht _ _ _ h
  have e' : [v] = [Value.int .i64 a] := e
  exact ⟨a, by simpa using e', wfI_of w0⟩
theorem opens_step : Opens enc Try.prog w base spare held k99 (fun s => wfI s.f0 ∧ wfI s.f1) 99 := by
  intro fuel cs x h
  obtain ⟨hl, hc⟩ := struct_cells Try.underlying99 (by kernel_rfl) h
  rw [show Try.prog.cellsOf 99 = 2 from by kernel_rfl] at hl
  match cs, hl with
  | [c0, c1], _ =>
    obtain ⟨n0, y0, v0, h0, t0⟩ := hc 0 _ rfl (by simp)
    obtain ⟨n1, y1, v1, h1, t1⟩ := hc 1 _ rfl (by simp)
    obtain rfl : c0 = v0 := by simpa using h0
    obtain rfl : c1 = v1 := by simpa using h1
    obtain ⟨a, rfl, w0⟩ := open_i (by kernel_rfl) t0
    obtain ⟨b, rfl, w1⟩ := open_i (by kernel_rfl) t1
    exact ⟨⟨a, b⟩, k99_mk w ⟨a, b⟩, w0, w1⟩
/-- What the numbers of a unit are: whole numbers of their kind. -/
structure wfU (u : S24) : Prop where
  h0 : wfI u.f0
  h1 : wfI u.f1
  h2 : ∀ s ∈ u.f2, wfI s.f0 ∧ wfI s.f1
  h3 : wfI u.f3
  h4 : wfI u.f4
  h5 : wfI u.f5
  h6 : wfI u.f6
  h7 : wfI u.f7
  h8 : wfI u.f8
set_option maxRecDepth 100000 in
theorem opens_unit : Opens enc Try.prog w base spare held k24 wfU 24 := by
  intro fuel cs x h
  obtain ⟨hl, hc⟩ := struct_cells Try.underlying24 (by kernel_rfl) h
  rw [show Try.prog.cellsOf 24 = 9 from by kernel_rfl] at hl
  match cs, hl with
  | [c0, c1, c2, c3, c4, c5, c6, c7, c8], _ =>
    obtain ⟨n0, y0, v0, h0, t0⟩ := hc 0 _ rfl (by simp)
    obtain ⟨n1, y1, v1, h1, t1⟩ := hc 1 _ rfl (by simp)
    obtain ⟨n2, y2, v2, h2, t2⟩ := hc 2 _ rfl (by simp)
    obtain ⟨n3, y3, v3, h3, t3⟩ := hc 3 _ rfl (by simp)
    obtain ⟨n4, y4, v4, h4, t4⟩ := hc 4 _ rfl (by simp)
    obtain ⟨n5, y5, v5, h5, t5⟩ := hc 5 _ rfl (by simp)
    obtain ⟨n6, y6, v6, h6, t6⟩ := hc 6 _ rfl (by simp)
    obtain ⟨n7, y7, v7, h7, t7⟩ := hc 7 _ rfl (by simp)
    obtain ⟨n8, y8, v8, h8, t8⟩ := hc 8 _ rfl (by simp)
    obtain rfl : c0 = v0 := by simpa using h0
    obtain rfl : c1 = v1 := by simpa using h1
    obtain rfl : c2 = v2 := by simpa using h2
    obtain rfl : c3 = v3 := by simpa using h3
    obtain rfl : c4 = v4 := by simpa using h4
    obtain rfl : c5 = v5 := by simpa using h5
    obtain rfl : c6 = v6 := by simpa using h6
    obtain rfl : c7 = v7 := by simpa using h7
    obtain rfl : c8 = v8 := by simpa using h8
    obtain ⟨a0, rfl, w0⟩ := open_i (by kernel_rfl) t0
    obtain ⟨a1, rfl, w1⟩ := open_i (by kernel_rfl) t1
    obtain ⟨l, ⟨A, c, e, hlc, hC⟩, hq⟩ := opens_slice Try.underlying22 opens_step (by kernel_rfl) _ _ _ t2
    obtain rfl : c2 = .slice A l.length c := by simpa using e
    obtain ⟨a3, rfl, w3⟩ := open_i (by kernel_rfl) t3
    obtain ⟨a4, rfl, w4⟩ := open_i (by kernel_rfl) t4
    obtain ⟨a5, rfl, w5⟩ := open_i (by kernel_rfl) t5
    obtain ⟨a6, rfl, w6⟩ := open_i (by kernel_rfl) t6
    obtain ⟨a7, rfl, w7⟩ := open_i (by kernel_rfl) t7
    obtain ⟨a8, rfl, w8⟩ := open_i (by kernel_rfl) t8
    exact ⟨⟨a0, a1, l, a3, a4, a5, a6, a7, a8⟩, k24_mk w ⟨a0, a1, l, a3, a4, a5, a6, a7, a8⟩ hlc hC, ⟨w0, w1, hq, w3, w4, w5, w6, w7, w8⟩⟩
set_option maxRecDepth 100000 in
/-- An argument that is a unit. -/
theorem arg_unit {r : Reach} {b0 : Nat} {v : Value} {d : DataW H} {p : List MemPlace} (hv : Value.okWide Try.prog w r b0 24 v) (h : DataW.Trod enc Try.prog w base spare held 24 v d p) :
    ∃ (u : S24) (A : Option Addr) (c : Nat), v = .agg #[.int .i64 u.f0, .int .i64 u.f1, .slice A u.f2.length c, .int .i64 u.f3, .int .i64 u.f4, .int .i64 u.f5, .int .i64 u.f6, .int .i64 u.f7, .int .i64 u.f8] ∧ u.f2.length ≤ c ∧ Kd.C k99 w A u.f2.length u.f2 ∧ wfU u := by
  have hs := okWide_struct Try.underlying24 hv
  obtain ⟨cs, hv2, _⟩ := hs
  clear hv
  subst hv2
  obtain ⟨fuel, hf⟩ := h
  have ho := opens_unit fuel cs.toList _ hf
  clear hf
  obtain ⟨u, hK, hq⟩ := ho
  obtain ⟨A, c, e, hl, hC⟩ := k24_open hK
  exact ⟨u, A, c, by rw [← e], hl, hC, hq⟩
end
section
variable {H : Type} {enc : TypeId × Value → H} {P : Program} {w : World} {base : Nat} {spare : Nat → Bool} {held : Bool}
/-- An argument that is a slice. -/
theorem arg_slice {α : Type} {dk : Kd α} {Q : α → Prop} {t te : TypeId} {r : Reach} {b0 : Nat} {v : Value} {d : DataW H} {p : List MemPlace} (ht : P.underlying t = some (.slice te)) (he : Opens enc P w base spare held dk Q te) (hC : P.cellsOf te = dk.sz)
    (hv : Value.okWide P w r b0 t v) (h : DataW.Trod enc P w base spare held t v d p) : ∃ (l : List α) (A : Option Addr) (c : Nat), v = .slice A l.length c ∧ l.length ≤ c ∧ Kd.C dk w A l.length l ∧ ∀ y ∈ l, Q y := by
  obtain ⟨a, len, cap, hv2⟩ := okWide_slice ht hv
  subst hv2
  obtain ⟨fuel, hf⟩ := h
  obtain ⟨l, ⟨A, c, e1, hlc, hC1⟩, hq⟩ := opens_slice ht he hC _ _ _ hf
  exact ⟨l, A, c, by simpa [Value.cells] using e1, hlc, hC1, hq⟩
end
end Go.Proofs.Ytelklgdmhnkenaa.U
