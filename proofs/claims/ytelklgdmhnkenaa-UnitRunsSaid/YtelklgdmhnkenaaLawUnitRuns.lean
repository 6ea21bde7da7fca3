/- The plain law UnitRuns. -/
import Derived.Test.YtelklgdmhnkenaaUxf4
import Derived.Test.YtelklgdmhnkenaaOpenA
import Derived.Test.YtelklgdmhnkenaaPlainG
namespace Go.Proofs.Ytelklgdmhnkenaa.U
open Go.RowKit Go.Proofs.YtelklgdmhnkenaaW.PrintWords Go.Proofs.YtelklgdmhnkenaaW.PrintLast Go.Proofs.YtelklgdmhnkenaaW.PrintMore
set_option linter.unusedVariables false
set_option linter.unusedSimpArgs false
section
variable {b m : Int} {l : List S99} {up dn st id sp on : Int}
/-- Whether every run that ends is long enough: 'cur' is the hour before, and 'r' the hours that it has lasted. -/
def runL (up dn : Int) : Bool → Bool → Int → List Bool → Bool
  | good, _, _, [] => good
  | good, cur, r, x :: rest => if x = cur then runL up dn good cur (r + 1) rest else runL up dn (good && !(decide (r < (if cur = true then up else dn)))) x 1 rest
theorem runL_false : ∀ (rest : List Bool) (cur : Bool) (r : Int), runL up dn false cur r rest = false
  | [], _, _ => rfl
  | x :: rest, cur, r => by
    unfold runL
    split
    · exact runL_false rest cur (r + 1)
    · rw [Bool.false_and]
      exact runL_false rest x 1
/-- The state after r hours alike. -/
def stOf (up dn : Int) (cur : Bool) (r : Int) : Int := if cur = true then mn up r else mx (-dn) (-r)
theorem runL_feasL (h : Okay b m l up dn st id sp on) (rest : List Bool) : ∀ (cur : Bool) (r : Int), 1 ≤ r → r + rest.length ≤ 100000 → runL up dn true cur r rest = feasL up dn (stOf up dn cur r) rest := by
  induction rest with
  | nil => intro _ _ _ _; rfl
  | cons x rest ih =>
    intro cur r h1 h2
    have hu := h.up1; have hd := h.dn1
    rw [List.length_cons] at h2
    unfold runL feasL
    by_cases hx : x = cur
    · subst hx
      rw [if_pos rfl, ih x (r + 1) (by omega) (by omega)]
      have e : nxF up dn (stOf up dn x r) x = (stOf up dn x (r + 1), true) := by
        unfold nxF stOf mx mn
        cases x
        · rw [if_neg (by simp), if_pos ⟨rfl, by simp only [Bool.false_eq_true, if_false]; split <;> omega⟩]
          simp only [Bool.false_eq_true, if_false]
          rw [wrap_id (x := -dn) (by omega) (by omega), wrap_id (by split <;> omega) (by split <;> omega)]
          congr 1
          split <;> split <;> (try split) <;> (try split) <;> omega
        · rw [if_pos ⟨rfl, by simp only [if_true]; split <;> omega⟩]
          simp only [if_true]
          rw [wrap_id (x := -dn) (by omega) (by omega), wrap_id (by split <;> omega) (by split <;> omega)]
          congr 1
          split <;> split <;> (try split) <;> (try split) <;> omega
      rw [e]
      simp
    · rw [if_neg hx]
      have hx2 : x = !cur := by cases x <;> cases cur <;> simp_all
      subst hx2
      by_cases hr : r < (if cur = true then up else dn)
      · have e : (nxF up dn (stOf up dn cur r) (!cur)).2 = false := by
          unfold nxF stOf mx mn
          rw [wrap_id (x := -dn) (by omega) (by omega)]
          cases cur
          · simp only [Bool.false_eq_true, if_false] at hr
            have e1 : ¬ (if -dn < -r then -r else -dn) > 0 := by split <;> omega
            have e2 : ¬ (if -dn < -r then -r else -dn) = -dn := by split <;> omega
            simp only [Bool.false_eq_true, Bool.not_false, Bool.true_eq_false, if_false, false_and, true_and]
            rw [if_neg e1, if_neg e2]
          · simp only [if_true] at hr
            have e1 : ¬ (if r < up then r else up) < 0 := by split <;> omega
            have e2 : ¬ (if r < up then r else up) = up := by split <;> omega
            simp only [Bool.false_eq_true, Bool.not_true, if_true, if_false, false_and, true_and]
            rw [if_neg e1, if_neg e2]
        rw [e, decide_eq_true hr]
        simp only [Bool.not_true, Bool.and_false, Bool.false_and]
        exact runL_false _ _ _
      · have e : nxF up dn (stOf up dn cur r) (!cur) = (stOf up dn (!cur) 1, true) := by
          unfold nxF stOf mx mn
          rw [wrap_id (x := -dn) (by omega) (by omega)]
          cases cur
          · simp only [Bool.false_eq_true, if_false] at hr
            have e1 : ¬ (if -dn < -r then -r else -dn) > 0 := by split <;> omega
            have e2 : (if -dn < -r then -r else -dn) = -dn := by split <;> omega
            simp only [Bool.false_eq_true, Bool.not_false, Bool.true_eq_false, if_false, if_true, false_and, true_and]
            rw [if_neg e1, if_pos e2]
            congr 1
            split <;> omega
          · simp only [if_true] at hr
            have e1 : ¬ (if r < up then r else up) < 0 := by split <;> omega
            have e2 : (if r < up then r else up) = up := by split <;> omega
            simp only [Bool.false_eq_true, Bool.not_true, if_true, if_false, false_and, true_and]
            rw [if_neg e1, if_pos e2]
            congr 1
            split <;> omega
        rw [e, decide_eq_false hr]
        simp only [Bool.not_false, Bool.and_true, Bool.true_and]
        exact ih (!cur) 1 (by omega) (by omega)
theorem runL_rep (rest : List Bool) (cur good : Bool) : ∀ (n : Nat) (r : Int), runL up dn good cur r (List.replicate n cur ++ rest) = runL up dn good cur (r + n) rest
  | 0, r => by simp
  | n + 1, r => by
    rw [List.replicate_succ, List.cons_append, runL, if_pos rfl, runL_rep rest cur good n (r + 1)]
    congr 1
    omega
theorem runs_scan (h : Okay b m l up dn st id sp on) (row all : List Bool) (hl : all.length ≤ 1000) (hr : row.length ≤ 1000) (d : Nat) : ∀ (i fr : Nat) (good : Bool), all.length - i = d → fr < i → i ≤ all.length → (hf : fr < all.length) → (hi1 : i - 1 < all.length) → all[fr] = all[i - 1] →
    Evs (fun k => pylonlaw26_UnitRuns.l1 k row all good (fr : Int) (i : Int) b m l up dn st id sp on) (feasL up dn (ini up dn on) row == runL up dn good all[fr] ((i : Int) - fr) (all.drop i)) := by
  have hu := h.up1; have hd := h.dn1
  induction d with
  | zero =>
    intro i fr good hd hfi hi hf hi1 he
    refine Evs.succ ?_
    simp only [pylonlaw26_UnitRuns.l1]
    refine Evs.congr (g := fun k => (unit_Feasible.f k b m l up dn st id sp on row).bind fun t => some (t == good)) ?_ (fun k => by rw [if_neg (by omega)])
    rw [List.drop_eq_nil_of_le (by omega)]
    exact Evs.bind (feas_ok h row (by omega)) (Evs.const rfl)
  | succ d ih =>
    intro i fr good hd hfi hi hf hi1 he
    have hlt : i < all.length := by omega
    refine Evs.succ ?_
    simp only [pylonlaw26_UnitRuns.l1]
    rw [wrap_id (x := (i : Int) - 1) (by omega) (by omega), wrap_id (x := (i : Int) + 1) (by omega) (by omega), wrap_id (x := (i : Int) - fr) (by omega) (by omega), show (i : Int) - 1 = ((i - 1 : Nat) : Int) by omega, rdOf_at _ _ _ hlt, rdOf_at _ _ _ hi1, rdOf_at _ _ _ hf]
    rw [List.drop_eq_getElem_cons hlt, runL]
    have a := fun g (hs : all[fr] = all[i + 1 - 1]'(by omega)) => ih (i + 1) fr g (by omega) (by omega) (by omega) hf (by omega) hs
    have c := fun g => ih (i + 1) i g (by omega) (by omega) (by omega) hlt (by omega) rfl
    by_cases hx : all[i] = all[i - 1]
    · have h2 := a good (by rw [he, ← hx]; congr 1)
      rw [if_pos (hx.trans he.symm), show (i : Int) - fr + 1 = ((i + 1 : Nat) : Int) - fr by omega]
      exact h2.congr fun k => by rw [if_pos (by omega), if_pos (by omega), if_pos (by omega), if_pos (by omega), if_pos (by simp [hx])]; rfl
    · rw [if_neg (fun e => hx (e.trans he))]
      have c1 := c (good && !(decide ((i : Int) - fr < (if all[fr] = true then up else dn))))
      rw [show ((i + 1 : Nat) : Int) - i = 1 by omega] at c1
      refine c1.congr fun k => ?_
      rw [if_pos (by omega), if_pos (by omega), if_pos (by omega), if_pos (by omega), if_neg (by simp [hx]), if_pos (by omega), if_pos (by omega)]
      by_cases hc : all[fr] = true
      · simp only [hc, if_true]
        by_cases hr : (i : Int) - fr < up
        · simp [hr]
        · simp [hr]
      · simp only [hc, if_false, Bool.false_eq_true]
        by_cases hr : (i : Int) - fr < dn
        · simp [hr]
        · simp [hr]
theorem runs_build (h : Okay b m l up dn st id sp on) (row : List Bool) (hr : row.length ≤ 100) (N : Nat) (hN : (N : Int) = mx on (-on)) (d : Nat) : ∀ (i : Nat), N - i = d → i ≤ N →
    Evs (fun k => pylonlaw26_UnitRuns.l0 k row (List.replicate i (decide (on > 0))) (i : Int) b m l up dn st id sp on) true := by
  have h1 := h.on1
  have hN1 : 1 ≤ N ∧ N ≤ 6 := by unfold mx at hN; split at hN <;> omega
  induction d with
  | zero =>
    intro i hd hi
    obtain rfl : i = N := by omega
    refine Evs.succ ?_
    simp only [pylonlaw26_UnitRuns.l0]
    rw [wrap_id (x := -on) (by omega) (by omega)]
    have hla : (List.replicate i (decide (on > 0)) ++ row).length = i + row.length := by simp
    have s := runs_scan h row (List.replicate i (decide (on > 0)) ++ row) (by omega) (by omega) (i + row.length - 1) 1 0 true (by omega) (by omega) (by omega) (by omega) (by omega) rfl
    have e0 : (List.replicate i (decide (on > 0)) ++ row)[0]'(by omega) = decide (on > 0) := by
      rw [List.getElem_append_left (by simp; omega), List.getElem_replicate]
    have e1 : (List.replicate i (decide (on > 0)) ++ row).drop 1 = List.replicate (i - 1) (decide (on > 0)) ++ row := by
      rw [List.drop_append_of_le_length (by simp; omega), List.drop_replicate]
    rw [e0, e1, runL_rep, runL_feasL h row _ _ (by omega) (by omega)] at s
    have e2 : stOf up dn (decide (on > 0)) (((1 : Nat) : Int) - ((0 : Nat) : Int) + ((i - 1 : Nat) : Int)) = ini up dn on := by
      have hu := h.up1; have hd := h.dn1
      unfold stOf ini mn mx
      unfold mx at hN
      by_cases hp : on > 0
      · simp only [hp, decide_true, if_true]
        split <;> split <;> split at hN <;> omega
      · simp only [hp, decide_false, Bool.false_eq_true, if_false]
        split <;> split <;> split at hN <;> (try split) <;> omega
    rw [e2, beq_self_eq_true] at s
    refine s.congr fun k => ?_
    rw [if_neg (by omega), if_pos (by simp; omega)]
    rfl
  | succ d ih =>
    intro i hd hi
    refine Evs.succ ?_
    simp only [pylonlaw26_UnitRuns.l0]
    rw [wrap_id (x := -on) (by omega) (by omega), wrap_id (x := (i : Int) + 1) (by omega) (by omega)]
    have a := ih (i + 1) (by omega) (by omega)
    rw [List.replicate_succ'] at a
    refine a.congr fun k => ?_
    rw [if_pos (by omega), if_pos (by simp; omega)]
    rfl
end
theorem UnitRuns_law (u : S24) (row : List Bool) (hu : wfU u) (hr : ∀ b ∈ row, True) : ∃ k, pylonlaw26_UnitRuns.f k u.f0 u.f1 u.f2 u.f3 u.f4 u.f5 u.f6 u.f7 u.f8 row = some true := by
  refine Evs.some ?_
  unfold pylonlaw26_UnitRuns.f
  refine guard_law (fun k x => pylonlaw26_UnitRuns.j0 k row x u.f0 u.f1 u.f2 u.f3 u.f4 u.f5 u.f6 u.f7 u.f8) row (Evs.succ (Evs.all fun k => by simp only [pylonlaw26_UnitRuns.j0]; rfl)) ?_
  intro h hr
  refine Evs.succ ?_
  simp only [pylonlaw26_UnitRuns.j0, Bool.false_eq_true, if_false]
  have h1 := h.on1
  have hm : 0 ≤ mx u.f8 (-u.f8) := by unfold mx; split <;> omega
  exact runs_build h row hr (mx u.f8 (-u.f8)).toNat (by omega) (mx u.f8 (-u.f8)).toNat 0 (by omega) (by omega)
end Go.Proofs.Ytelklgdmhnkenaa.U
