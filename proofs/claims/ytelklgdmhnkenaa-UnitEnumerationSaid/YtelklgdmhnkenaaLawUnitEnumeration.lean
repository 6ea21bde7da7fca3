/- The plain law UnitEnumeration. -/
import Derived.Test.YtelklgdmhnkenaaUxf7
import Derived.Test.YtelklgdmhnkenaaOpenA
import Derived.Test.YtelklgdmhnkenaaPlainH
namespace Go.Proofs.Ytelklgdmhnkenaa.U
open Go.RowKit Go.Proofs.YtelklgdmhnkenaaW.PrintWords Go.Proofs.YtelklgdmhnkenaaW.PrintLast Go.Proofs.YtelklgdmhnkenaaW.PrintMore
set_option linter.unusedVariables false
set_option linter.unusedSimpArgs false
section
variable {b m : Int} {l : List S99} {up dn st id sp on : Int}
theorem enum_scan (h : Okay b m l up dn st id sp on) (xs : List (List Bool)) (hx : xs.length ≤ 1000) (hm : ∀ r ∈ xs, r.length ≤ 1000) (out : List (List Bool)) (hout : out.length ≤ 1000) (d : Nat) : ∀ (i : Nat) (dne : List (List Bool)), xs.length - i = d → i ≤ xs.length →
    out = dne ++ (xs.drop i).filter (feasL up dn (ini up dn on)) → Evs (fun k => pylonlaw26_UnitEnumeration.l0 k out xs (dne.length : Int) (i : Int) b m l up dn st id sp on) true := by
  induction d with
  | zero =>
    intro i dne hd hi ho
    refine Evs.succ (Evs.all fun k => ?_)
    simp only [pylonlaw26_UnitEnumeration.l0]
    rw [List.drop_eq_nil_of_le (by omega), List.filter_nil, List.append_nil] at ho
    rw [if_neg (by omega), ho]
    simp
  | succ d ih =>
    intro i dne hd hi ho
    have hlt : i < xs.length := by omega
    have hmi := hm _ (List.getElem_mem hlt)
    rw [List.drop_eq_getElem_cons hlt, List.filter_cons] at ho
    have hdl : dne.length ≤ out.length := by rw [ho]; simp
    refine Evs.succ ?_
    simp only [pylonlaw26_UnitEnumeration.l0]
    rw [wrap_id (x := (i : Int) + 1) (by omega) (by omega), wrap_id (x := (dne.length : Int) + 1) (by omega) (by omega), rd_L5_at _ _ hlt]
    simp only [if_pos (show (i : Int) < (xs.length : Int) by omega), if_pos (show (0 : Int) ≤ (i : Int) by omega)]
    refine Evs.bind (feas_ok h xs[i] (by omega)) ?_
    by_cases hf : feasL up dn (ini up dn on) xs[i] = true
    · rw [if_pos hf] at ho
      have hlo : dne.length < out.length := by rw [ho]; simp
      have eo : out[dne.length] = xs[i] := by
        have e1 : out[dne.length]? = some xs[i] := by rw [ho]; simp
        rw [List.getElem?_eq_getElem hlo] at e1
        exact Option.some.inj e1
      rw [hf, rd_L5_at _ _ hlo, eo]
      simp only [if_true, if_neg (show ¬ (dne.length : Int) ≥ (out.length : Int) by omega), if_pos (show (0 : Int) ≤ (dne.length : Int) by omega), if_pos (show (dne.length : Int) < (out.length : Int) by omega)]
      refine Evs.bind (same_f xs[i] xs[i] (by omega)) ?_
      simp only [decide_true, if_true]
      have := ih (i + 1) (dne ++ [xs[i]]) (by omega) (by omega) (by rw [ho]; simp)
      rw [List.length_append, List.length_singleton] at this
      exact this
    · rw [if_neg hf] at ho
      simp only [hf, if_false, Bool.false_eq_true]
      exact ih (i + 1) dne (by omega) (by omega) ho
end
theorem UnitEnumeration_law (u : S24) (n : Int) (hu : wfU u) (hn : 0 ≤ n ∧ n ≤ 255) : ∃ k, pylonlaw26_UnitEnumeration.f k u.f0 u.f1 u.f2 u.f3 u.f4 u.f5 u.f6 u.f7 u.f8 n = some true := by
  refine Evs.some ?_
  unfold pylonlaw26_UnitEnumeration.f
  refine guard_law (fun k x => pylonlaw26_UnitEnumeration.j0 k n x u.f0 u.f1 u.f2 u.f3 u.f4 u.f5 u.f6 u.f7 u.f8) [] (Evs.succ (Evs.all fun k => by simp only [pylonlaw26_UnitEnumeration.j0]; rfl)) ?_
  intro h _
  have hs := ini_state h
  have e1 : Int.tmod n 9 = n % 9 := Int.tmod_eq_emod_of_nonneg hn.1
  refine Evs.succ ?_
  simp only [pylonlaw26_UnitEnumeration.j0, Bool.false_eq_true, if_false]
  rw [e1, wrap_id (x := n % 9) (by omega) (by omega)]
  have e2 : schedF u.f0 u.f1 u.f2 u.f3 u.f4 u.f5 u.f6 u.f7 u.f8 (n % 9) = ((allL (n % 9).toNat).filter (feasL u.f3 u.f4 (ini u.f3 u.f4 u.f8)), 0) := by
    unfold schedF
    rw [if_pos ((okay_iff _ _ _ _ _ _ _ _ _).2 h), if_pos (by simp [inB]; omega), initF_ok h, schedFrom_filter]
    simp
  simp only [unit_Schedules.f, e2, Option.bind_some, if_true]
  have hl : (allL (n % 9).toNat).length ≤ 256 := by rw [allL_length]; exact pow8 (by omega)
  have hl2 : ((allL (n % 9).toNat).filter (feasL u.f3 u.f4 (ini u.f3 u.f4 u.f8))).length ≤ 256 := Nat.le_trans (List.length_filter_le _ _) hl
  have hne : ((allL (n % 9).toNat).filter (feasL u.f3 u.f4 (ini u.f3 u.f4 u.f8))).length ≠ 0 := by
    have : List.replicate (n % 9).toNat (decide (u.f8 > 0)) ∈ (allL (n % 9).toNat).filter (feasL u.f3 u.f4 (ini u.f3 u.f4 u.f8)) := by
      rw [List.mem_filter]
      refine ⟨allL_rep _ _, feasL_stay h _ _ _ hs.1 ⟨hs.2.1, hs.2.2.1⟩ ?_⟩
      by_cases hp : u.f8 > 0
      · simp [hp]; omega
      · simp [hp]; omega
    have := List.length_pos_of_mem this
    omega
  refine Evs.succ ?_
  simp only [pylonlaw26_UnitEnumeration.j1]
  have e3 : ¬ ((((allL (n % 9).toNat).filter (feasL u.f3 u.f4 (ini u.f3 u.f4 u.f8))).length : Int) == 0) = true := by
    rw [beq_iff_eq]
    omega
  simp only [if_neg e3]
  have ha := all_f (n % 9).toNat (by omega)
  rw [show (((n % 9).toNat : Nat) : Int) = n % 9 by omega] at ha
  have hA : Evs (fun k => pylonref26_All.f k (n % 9)) (allL (n % 9).toNat) := by
    unfold pylonref26_All.f
    exact Evs.bind ha (Evs.const rfl)
  refine Evs.bind hA ?_
  exact enum_scan h (allL (n % 9).toNat) (by omega) (fun r hr => by rw [allL_mem _ r hr]; omega) _ (by omega) _ 0 [] rfl (by omega) rfl
end Go.Proofs.Ytelklgdmhnkenaa.U
