/- The plain law UnitSaturation. -/
import Derived.Test.YtelklgdmhnkenaaUxf9
import Derived.Test.YtelklgdmhnkenaaOpenA
import Derived.Test.YtelklgdmhnkenaaPlainG
namespace Go.Proofs.Ytelklgdmhnkenaa.U
open Go.RowKit Go.Proofs.YtelklgdmhnkenaaW.PrintWords Go.Proofs.YtelklgdmhnkenaaW.PrintLast Go.Proofs.YtelklgdmhnkenaaW.PrintMore
set_option linter.unusedVariables false
set_option linter.unusedSimpArgs false
section
variable {b m : Int} {l : List S99} {up dn st id sp on : Int}
theorem okay_state (h : Okay b m l up dn st id sp on) {s : Int} (h0 : s ≠ 0) (h1 : -dn ≤ s ∧ s ≤ up) : Okay b m l up dn st id sp s := by
  obtain ⟨g0, g1, g2, g3, g4, g5, g6, g7, g8⟩ := h
  exact ⟨g0, g1, g2, g3, g4, g5, g6, g7, by omega⟩
theorem ini_fix {s : Int} (h1 : -dn ≤ s ∧ s ≤ up) : ini up dn s = s := by
  unfold ini mx mn
  split <;> split <;> omega
end
theorem UnitSaturation_law (u : S24) (row : List Bool) (hu : wfU u) (hr : ∀ b ∈ row, True) : ∃ k, pylonlaw26_UnitSaturation.f k u.f0 u.f1 u.f2 u.f3 u.f4 u.f5 u.f6 u.f7 u.f8 row = some true := by
  refine Evs.some ?_
  unfold pylonlaw26_UnitSaturation.f
  refine guard_law (fun k x => pylonlaw26_UnitSaturation.j0 k row x u.f0 u.f1 u.f2 u.f3 u.f4 u.f5 u.f6 u.f7 u.f8) row (Evs.succ (Evs.all fun k => by simp only [pylonlaw26_UnitSaturation.j0]; rfl)) ?_
  intro h hr
  obtain ⟨i0, i1, i2, i3⟩ := ini_state h
  have h2 := okay_state h i0 ⟨i1, i2⟩
  have e := ini_fix (up := u.f3) (dn := u.f4) ⟨i1, i2⟩
  have e2 : decide (ini u.f3 u.f4 u.f8 > 0) = decide (u.f8 > 0) := decide_eq_decide.2 i3
  have hf := feas_ok h2 row (by omega)
  have hs := starts_ok h2 row (by omega)
  have hc := cost_ok h2 row (by omega)
  have hi := init_ok h2
  rw [e] at hf hi
  rw [e2] at hs hc
  refine Evs.succ ?_
  simp only [pylonlaw26_UnitSaturation.j0, Bool.false_eq_true, if_false]
  refine Evs.bind (init_ok h) ?_
  refine Evs.bind (lawmay_f _ _ _ _ _ _ _ _ _) ?_
  simp only [okB_iff.2 h2, if_true]
  refine Evs.bind hi ?_
  simp only [if_true]
  refine Evs.bind (feas_ok h row (by omega)) ?_
  refine Evs.bind hf ?_
  simp only [beq_self_eq_true, if_true]
  refine Evs.bind (starts_ok h row (by omega)) ?_
  refine Evs.bind hs ?_
  simp only [if_true]
  refine Evs.bind (cost_ok h row (by omega)) ?_
  exact Evs.bind hc (Evs.const (by simp))
end Go.Proofs.Ytelklgdmhnkenaa.U
