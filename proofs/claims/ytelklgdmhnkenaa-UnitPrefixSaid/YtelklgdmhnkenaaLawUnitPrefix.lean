/- The plain law UnitPrefix. -/
import Derived.Test.YtelklgdmhnkenaaUxf6
import Derived.Test.YtelklgdmhnkenaaOpenA
import Derived.Test.YtelklgdmhnkenaaPlainG
namespace Go.Proofs.Ytelklgdmhnkenaa.U
open Go.RowKit Go.Proofs.YtelklgdmhnkenaaW.PrintWords Go.Proofs.YtelklgdmhnkenaaW.PrintLast Go.Proofs.YtelklgdmhnkenaaW.PrintMore
set_option linter.unusedVariables false
set_option linter.unusedSimpArgs false
section
variable {b m : Int} {l : List S99} {up dn st id sp on : Int}
theorem feasL_take (up dn : Int) : ∀ (row : List Bool) (s : Int) (n : Nat), feasL up dn s row = true → feasL up dn s (row.take n) = true
  | [], _, _, _ => by simp [feasL]
  | x :: r, s, 0, _ => by simp [feasL]
  | x :: r, s, n + 1, h => by
    rw [feasL, Bool.and_eq_true] at h
    rw [List.take_succ_cons, feasL, h.1, Bool.true_and]
    exact feasL_take up dn r _ n h.2
theorem startsL_stay (x : Bool) : ∀ (n : Nat), startsL x (List.replicate n x) = 0
  | 0 => rfl
  | n + 1 => by
    rw [List.replicate_succ, startsL, startsL_stay x n]
    cases x <;> simp
theorem prefix_tail (h : Okay b m l up dn st id sp on) (row : List Bool) (hr : row.length ≤ 100) (c : Int) (hc : 0 ≤ c ∧ c ≤ row.length) (N : Nat) (hN : N ≤ 40) (d : Nat) : ∀ (i : Nat), N - i = d → i ≤ N →
    Evs (fun k => pylonlaw26_UnitPrefix.l0 k row c (List.replicate i (decide (on > 0)) ++ List.replicate (N - i) false) (i : Int) b m l up dn st id sp on) true := by
  have hs := ini_state h
  induction d with
  | zero =>
    intro i hd hi
    obtain rfl : i = N := by omega
    have hfs : feasL up dn (ini up dn on) (List.replicate i (decide (on > 0))) = true := feasL_stay h _ i _ hs.1 ⟨hs.2.1, hs.2.2.1⟩ (by
      by_cases hp : on > 0
      · simp [hp]; omega
      · simp [hp]; omega)
    refine Evs.succ ?_
    simp only [pylonlaw26_UnitPrefix.l0, Nat.sub_self, List.replicate_zero, List.append_nil, List.length_replicate, Int.lt_irrefl, if_false]
    refine Evs.bind (feas_ok h _ (by simp; omega)) ?_
    rw [hfs]
    simp only [if_true]
    refine Evs.bind (starts_ok h _ (by simp; omega)) ?_
    rw [startsL_stay]
    simp only [if_true]
    refine Evs.bind (feas_ok h row (by omega)) ?_
    cases hf : feasL up dn (ini up dn on) row
    · exact Evs.const rfl
    · simp only [if_true, if_pos hc.1, if_pos hc.2]
      refine Evs.bind (feas_ok h (row.take c.toNat) (by simp; omega)) (Evs.const ?_)
      rw [feasL_take up dn row _ _ hf]
  | succ d ih =>
    intro i hd hi
    refine Evs.succ ?_
    simp only [pylonlaw26_UnitPrefix.l0]
    have a := ih (i + 1) (by omega) (by omega)
    rw [wrap_id (x := (i : Int) + 1) (by omega) (by omega)]
    have e : (List.replicate i (decide (on > 0)) ++ List.replicate (N - i) false).set (i : Int).toNat (decide (on > 0)) = List.replicate (i + 1) (decide (on > 0)) ++ List.replicate (N - (i + 1)) false := by
      obtain ⟨q, hq⟩ : ∃ q, N - i = q + 1 := ⟨N - i - 1, by omega⟩
      rw [hq, show N - (i + 1) = q by omega, Int.toNat_natCast, List.set_append_right _ _ (by simp), List.length_replicate, Nat.sub_self, List.replicate_succ (n := q), List.set_cons_zero, List.replicate_succ', List.append_assoc]
      rfl
    rw [e]
    refine a.congr fun k => ?_
    rw [if_pos (by simp; omega), if_pos (by omega)]
    rfl
end
theorem UnitPrefix_law (u : S24) (row : List Bool) (n : Int) (hu : wfU u) (hr : ∀ b ∈ row, True) (hn : 0 ≤ n ∧ n ≤ 255) : ∃ k, pylonlaw26_UnitPrefix.f k u.f0 u.f1 u.f2 u.f3 u.f4 u.f5 u.f6 u.f7 u.f8 row n = some true := by
  refine Evs.some ?_
  unfold pylonlaw26_UnitPrefix.f
  refine guard_law (fun k x => pylonlaw26_UnitPrefix.j0 k row n x u.f0 u.f1 u.f2 u.f3 u.f4 u.f5 u.f6 u.f7 u.f8) row (Evs.succ (Evs.all fun k => by simp only [pylonlaw26_UnitPrefix.j0]; rfl)) ?_
  intro h hr
  have e1 : Int.tmod n 40 = n % 40 := Int.tmod_eq_emod_of_nonneg hn.1
  refine Evs.succ ?_
  simp only [pylonlaw26_UnitPrefix.j0, Bool.false_eq_true, if_false]
  rw [wrap_id (x := (row.length : Int) + 1) (by omega) (by omega), wrap_id (x := n) (by omega) (by omega), e1, wrap_id (x := n % 40) (by omega) (by omega)]
  have e2 : Int.tmod n ((row.length : Int) + 1) = n % ((row.length : Int) + 1) := Int.tmod_eq_emod_of_nonneg hn.1
  rw [e2]
  have h0 := Int.emod_nonneg n (show (row.length : Int) + 1 ≠ 0 by omega)
  have h1 := Int.emod_lt_of_pos n (show 0 < (row.length : Int) + 1 by omega)
  simp only [if_neg (show ¬ ((row.length : Int) + 1 = 0) by omega), if_pos (show 0 ≤ n % 40 by omega), if_pos (show (n % 40).toNat ≤ 281474976710656 by omega)]
  have := prefix_tail h row hr (n % ((row.length : Int) + 1)) ⟨h0, by omega⟩ (n % 40).toNat (by omega) (n % 40).toNat 0 (by omega) (by omega)
  simpa using this
end Go.Proofs.Ytelklgdmhnkenaa.U
