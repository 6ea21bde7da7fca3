/- The plain law UnitTransitions. -/
import Derived.Test.YtelklgdmhnkenaaUxf5
import Derived.Test.YtelklgdmhnkenaaOpenA
import Derived.Test.YtelklgdmhnkenaaPlainG
namespace Go.Proofs.Ytelklgdmhnkenaa.U
open Go.RowKit Go.Proofs.YtelklgdmhnkenaaW.PrintWords Go.Proofs.YtelklgdmhnkenaaW.PrintLast Go.Proofs.YtelklgdmhnkenaaW.PrintMore
set_option linter.unusedVariables false
set_option linter.unusedSimpArgs false
section
variable {b m : Int} {l : List S99} {up dn st id sp on : Int}
theorem trans_scan (h : Okay b m l up dn st id sp on) (row : List Bool) (hr : row.length ≤ 1000) (d : Nat) : ∀ (i : Nat) (s : Int), row.length - i = d → i ≤ row.length → s ≠ 0 → -dn ≤ s ∧ s ≤ up → feasL up dn (ini up dn on) row = feasL up dn s (row.drop i) →
    Evs (fun k => pylonlaw26_UnitTransitions.l0 k row s (i : Int) b m l up dn st id sp on) true := by
  have hu := h.up1; have hd := h.dn1
  induction d with
  | zero =>
    intro i s hd hi h0 h1 hf
    refine Evs.succ ?_
    simp only [pylonlaw26_UnitTransitions.l0]
    refine Evs.congr (g := fun k => (unit_Feasible.f k b m l up dn st id sp on row).bind fun t => some t) ?_ (fun k => by rw [if_neg (by omega)])
    refine Evs.bind (feas_ok h row (by omega)) (Evs.const ?_)
    rw [hf, List.drop_eq_nil_of_le (by omega)]
    rfl
  | succ d ih =>
    intro i s hd hi h0 h1 hf
    have hlt : i < row.length := by omega
    rw [List.drop_eq_getElem_cons hlt, feasL] at hf
    refine Evs.succ ?_
    simp only [pylonlaw26_UnitTransitions.l0]
    rw [wrap_id (x := (i : Int) + 1) (by omega) (by omega), rdOf_at _ _ _ hlt, wrap_id (x := -dn) (by omega) (by omega)]
    simp only [if_pos (show (i : Int) < (row.length : Int) by omega), if_pos (show (0 : Int) ≤ (i : Int) by omega)]
    refine Evs.bind (pubnext_ok h s row[i] h0 h1) ?_
    cases hn : (nxF up dn s row[i]).2
    · obtain ⟨n0, n1, n2, n3⟩ := nx_not h h0 hn
      simp only [Bool.false_eq_true, if_false, n0, if_true, if_neg n2, if_neg n3]
      simp only [if_pos (show (row[i] != decide (s > 0)) = true by simpa using n1)]
      rw [hn, Bool.false_and] at hf
      refine Evs.bind (feas_ok h row (by omega)) (Evs.const ?_)
      rw [hf]
      rfl
    · obtain ⟨n0, n1, n2, n3⟩ := nx_state h h0 h1 hn
      rw [hn, Bool.true_and] at hf
      simp only [if_true, if_neg n0, if_neg (show ¬ (nxF up dn s row[i]).1 > up by omega), if_neg (show ¬ (nxF up dn s row[i]).1 < -dn by omega)]
      have e : ¬ ((decide ((nxF up dn s row[i]).1 > 0) != row[i]) = true) := by
        have : decide ((nxF up dn s row[i]).1 > 0) = row[i] := by
          cases hx : row[i]
          · rw [hx] at n3; simpa using n3
          · rw [hx] at n3; simpa using n3
        rw [this]
        simp
      simp only [if_neg e]
      exact ih (i + 1) _ (by omega) (by omega) n0 ⟨n1, n2⟩ hf
end
theorem UnitTransitions_law (u : S24) (row : List Bool) (hu : wfU u) (hr : ∀ b ∈ row, True) : ∃ k, pylonlaw26_UnitTransitions.f k u.f0 u.f1 u.f2 u.f3 u.f4 u.f5 u.f6 u.f7 u.f8 row = some true := by
  refine Evs.some ?_
  unfold pylonlaw26_UnitTransitions.f
  refine guard_law (fun k x => pylonlaw26_UnitTransitions.j0 k row x u.f0 u.f1 u.f2 u.f3 u.f4 u.f5 u.f6 u.f7 u.f8) row (Evs.succ (Evs.all fun k => by simp only [pylonlaw26_UnitTransitions.j0]; rfl)) ?_
  intro h hr
  obtain ⟨i0, i1, i2, i3⟩ := ini_state h
  have hd := h.dn1
  refine Evs.succ ?_
  simp only [pylonlaw26_UnitTransitions.j0, Bool.false_eq_true, if_false]
  refine Evs.bind (init_ok h) ?_
  rw [wrap_id (x := -u.f4) (by omega) (by omega)]
  simp only [if_neg i0, if_neg (show ¬ ini u.f3 u.f4 u.f8 > u.f3 by omega), if_neg (show ¬ ini u.f3 u.f4 u.f8 < -u.f4 by omega)]
  refine Evs.succ ?_
  simp only [pylonlaw26_UnitTransitions.j1]
  refine Evs.congr (g := fun k => pylonlaw26_UnitTransitions.l0 k row (ini u.f3 u.f4 u.f8) ((0 : Nat) : Int) u.f0 u.f1 u.f2 u.f3 u.f4 u.f5 u.f6 u.f7 u.f8) ?_ (fun k => ?_)
  · exact trans_scan h row (by omega) row.length 0 _ (by omega) (by omega) i0 ⟨i1, i2⟩ rfl
  · rw [if_neg]
    · rfl
    · have : decide (ini u.f3 u.f4 u.f8 > 0) = decide (u.f8 > 0) := decide_eq_decide.2 i3
      rw [this]
      simp
end Go.Proofs.Ytelklgdmhnkenaa.U
