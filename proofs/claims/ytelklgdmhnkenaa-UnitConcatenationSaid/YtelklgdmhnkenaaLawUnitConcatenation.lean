/- The plain law UnitConcatenation. -/
import Derived.Test.YtelklgdmhnkenaaUxf8
import Derived.Test.YtelklgdmhnkenaaOpenA
import Derived.Test.YtelklgdmhnkenaaPlainG
namespace Go.Proofs.Ytelklgdmhnkenaa.U
open Go.RowKit Go.Proofs.YtelklgdmhnkenaaW.PrintWords Go.Proofs.YtelklgdmhnkenaaW.PrintLast Go.Proofs.YtelklgdmhnkenaaW.PrintMore
set_option linter.unusedVariables false
set_option linter.unusedSimpArgs false
section
variable {b m : Int} {l : List S99} {up dn st id sp on : Int}
theorem okay_state (h : Okay b m l up dn st id sp on) {s : Int} (h0 : s ≠ 0) (h1 : -dn ≤ s ∧ s ≤ up) : Okay b m l up dn st id sp s := by
  obtain ⟨g0, g1, g2, g3, g4, g5, g6, g7, g8⟩ := h
  exact ⟨g0, g1, g2, g3, g4, g5, g6, g7, by omega⟩
theorem ini_fix {s : Int} (h1 : -dn ≤ s ∧ s ≤ up) : ini up dn s = s := by
  unfold ini mx mn
  split <;> split <;> omega
theorem feasL_append (up dn : Int) : ∀ (a c : List Bool) (s : Int), feasL up dn s (a ++ c) = (feasL up dn s a && feasL up dn (endL up dn s a) c)
  | [], c, s => by simp [feasL, endL]
  | x :: a, c, s => by rw [List.cons_append, feasL, feasL_append up dn a c, feasL, endL, Bool.and_assoc]
theorem onsL_append : ∀ (a c : List Bool), onsL (a ++ c) = onsL a + onsL c
  | [], c => by simp [onsL]
  | x :: a, c => by rw [List.cons_append, onsL, onsL_append a c, onsL, Int.add_assoc]
theorem end_state (h : Okay b m l up dn st id sp on) : ∀ (a : List Bool) (s : Int), s ≠ 0 → -dn ≤ s ∧ s ≤ up → feasL up dn s a = true → endL up dn s a ≠ 0 ∧ -dn ≤ endL up dn s a ∧ endL up dn s a ≤ up
  | [], s, h0, h1, _ => ⟨h0, h1.1, h1.2⟩
  | x :: a, s, h0, h1, hf => by
    rw [feasL, Bool.and_eq_true] at hf
    obtain ⟨n0, n1, n2, n3⟩ := nx_state h h0 h1 hf.1
    exact end_state h a _ n0 ⟨n1, n2⟩ hf.2
theorem startsL_append (h : Okay b m l up dn st id sp on) : ∀ (a c : List Bool) (s : Int), s ≠ 0 → -dn ≤ s ∧ s ≤ up → feasL up dn s a = true →
    startsL (decide (s > 0)) (a ++ c) = startsL (decide (s > 0)) a + startsL (decide (endL up dn s a > 0)) c
  | [], c, s, _, _, _ => by simp [startsL, endL]
  | x :: a, c, s, h0, h1, hf => by
    rw [feasL, Bool.and_eq_true] at hf
    obtain ⟨n0, n1, n2, n3⟩ := nx_state h h0 h1 hf.1
    have e : decide ((nxF up dn s x).1 > 0) = x := by
      cases x
      · simpa using n3
      · simpa using n3
    have ih := startsL_append h a c _ n0 ⟨n1, n2⟩ hf.2
    rw [e] at ih
    rw [List.cons_append, startsL, ih, startsL, endL, Int.add_assoc]
theorem concat_scan (h : Okay b m l up dn st id sp on) (a c row : List Bool) (hrow : row = a ++ c) (ha : a.length ≤ 1000) (hc : c.length ≤ 1000) (hfa : feasL up dn (ini up dn on) a = true) (d : Nat) : ∀ (i : Nat) (s : Int), a.length - i = d → i ≤ a.length → s ≠ 0 → -dn ≤ s ∧ s ≤ up →
    feasL up dn s (a.drop i) = true → endL up dn (ini up dn on) a = endL up dn s (a.drop i) → Evs (fun k => pylonlaw26_UnitConcatenation.l0 k a c row s (i : Int) b m l up dn st id sp on) true := by
  have hs := ini_state h
  have hlr : row.length ≤ 2000 := by rw [hrow, List.length_append]; omega
  induction d with
  | zero =>
    intro i s hd hi h0 h1 hf he
    rw [List.drop_eq_nil_of_le (by omega)] at he
    simp only [endL] at he
    have e2 : decide (ini up dn on > 0) = decide (on > 0) := decide_eq_decide.2 hs.2.2.2
    have h2 := okay_state h h0 h1
    have ef := ini_fix (up := up) (dn := dn) h1
    have hfc := feas_ok h2 c (by omega)
    rw [ef] at hfc
    have a1 := feasL_append up dn a c (ini up dn on)
    rw [← hrow, hfa, Bool.true_and, he] at a1
    have a2 := startsL_append h a c (ini up dn on) hs.1 ⟨hs.2.1, hs.2.2.1⟩ hfa
    rw [← hrow, he, e2] at a2
    have a3 := onsL_append a c
    rw [← hrow] at a3
    have b1 := startsL_bound (decide (on > 0)) a
    have b2 := startsL_bound (decide (s > 0)) c
    have b3 := onsL_bound a
    have b4 := onsL_bound c
    have hst := h.st1
    have hid := h.id1
    have m1 : 0 ≤ startsL (decide (on > 0)) a * st := Int.mul_nonneg b1.1 hst.1
    have m1' : startsL (decide (on > 0)) a * st ≤ 1000 * 1000000000 := Int.mul_le_mul (by omega) (by omega) (by omega) (by omega)
    have m2 : 0 ≤ startsL (decide (s > 0)) c * st := Int.mul_nonneg b2.1 hst.1
    have m2' : startsL (decide (s > 0)) c * st ≤ 1000 * 1000000000 := Int.mul_le_mul (by omega) (by omega) (by omega) (by omega)
    have m3 : 0 ≤ onsL a * id := Int.mul_nonneg b3.1 hid.1
    have m3' : onsL a * id ≤ 1000 * 1000000000 := Int.mul_le_mul (by omega) (by omega) (by omega) (by omega)
    have m4 : 0 ≤ onsL c * id := Int.mul_nonneg b4.1 hid.1
    have m4' : onsL c * id ≤ 1000 * 1000000000 := Int.mul_le_mul (by omega) (by omega) (by omega) (by omega)
    refine Evs.succ ?_
    simp only [pylonlaw26_UnitConcatenation.l0, if_neg (show ¬ (i : Int) < (a.length : Int) by omega)]
    refine Evs.bind (lawmay_f _ _ _ _ _ _ _ _ _) ?_
    simp only [okB_iff.2 h2, if_true]
    refine Evs.bind (feas_ok h row (by omega)) ?_
    refine Evs.bind hfc ?_
    simp only [a1, beq_self_eq_true, if_true]
    refine Evs.bind (starts_ok h row (by omega)) ?_
    refine Evs.bind (starts_ok h a (by omega)) ?_
    refine Evs.bind (starts_ok h2 c (by omega)) ?_
    rw [a2, wrap_id (by omega) (by omega)]
    simp only [if_true]
    refine Evs.bind (cost_ok h row (by omega)) ?_
    refine Evs.bind (cost_ok h a (by omega)) ?_
    refine Evs.bind (cost_ok h2 c (by omega)) (Evs.const ?_)
    rw [a2, a3, Int.add_mul, Int.add_mul, wrap_id (by omega) (by omega)]
    congr 1
    rw [beq_iff_eq]
    omega
  | succ d ih =>
    intro i s hd hi h0 h1 hf he
    have hlt : i < a.length := by omega
    rw [List.drop_eq_getElem_cons hlt] at hf he
    rw [feasL, Bool.and_eq_true] at hf
    rw [endL] at he
    obtain ⟨n0, n1, n2, n3⟩ := nx_state h h0 h1 hf.1
    refine Evs.succ ?_
    simp only [pylonlaw26_UnitConcatenation.l0]
    rw [wrap_id (x := (i : Int) + 1) (by omega) (by omega), rdOf_at _ _ _ hlt]
    simp only [if_pos (show (i : Int) < (a.length : Int) by omega), if_pos (show (0 : Int) ≤ (i : Int) by omega)]
    refine Evs.bind (pubnext_ok h s a[i] h0 h1) ?_
    exact ih (i + 1) _ (by omega) (by omega) n0 ⟨n1, n2⟩ hf.2 he
end
theorem UnitConcatenation_law (u : S24) (a c : List Bool) (hu : wfU u) (ha : ∀ b ∈ a, True) (hc : ∀ b ∈ c, True) : ∃ k, pylonlaw26_UnitConcatenation.f k u.f0 u.f1 u.f2 u.f3 u.f4 u.f5 u.f6 u.f7 u.f8 a c = some true := by
  refine Evs.some ?_
  unfold pylonlaw26_UnitConcatenation.f
  have ht : Evs (fun k => pylonlaw26_UnitConcatenation.j0 k a c true u.f0 u.f1 u.f2 u.f3 u.f4 u.f5 u.f6 u.f7 u.f8) true := Evs.succ (Evs.all fun k => by simp only [pylonlaw26_UnitConcatenation.j0]; rfl)
  unfold pylonlaw26_Long.f
  by_cases hl : (u.f2.length : Int) > 100
  · simp only [if_pos hl, Option.bind_some, if_true]
    exact ht
  · simp only [if_neg hl, Option.bind_some, decide_eq_true_eq]
    by_cases hr : (a.length : Int) > 100
    · simp only [if_pos hr]
      exact ht
    · simp only [if_neg hr]
      by_cases hr2 : (c.length : Int) > 100
      · simp only [if_pos hr2]
        exact ht
      · simp only [if_neg hr2]
        refine Evs.bind (lawmay_f _ _ _ _ _ _ _ _ _) ?_
        cases hk : okB u.f0 u.f1 u.f2 u.f3 u.f4 u.f5 u.f6 u.f7 u.f8
        · simp only [Bool.false_eq_true, if_false]
          exact ht
        · have h := okB_iff.1 hk
          have hs := ini_state h
          simp only [if_true]
          refine Evs.bind (g := fun _ => pylonlaw26_awake.f) (Evs.const rfl) ?_
          refine Evs.succ ?_
          simp only [pylonlaw26_UnitConcatenation.j0, Bool.not_true, Bool.false_eq_true, if_false, Option.bind_some, List.length_nil, List.nil_append]
          simp only [if_pos (show 0 + a.length < 140737488355328 by omega), if_pos (show a.length + c.length < 140737488355328 by omega)]
          refine Evs.bind (feas_ok h a (by omega)) ?_
          cases hf : feasL u.f3 u.f4 (ini u.f3 u.f4 u.f8) a
          · simp only [Bool.false_eq_true, if_false]
            refine Evs.bind (feas_ok h (a ++ c) (by rw [List.length_append]; omega)) (Evs.const ?_)
            rw [feasL_append, hf]
            rfl
          · simp only [if_true]
            refine Evs.bind (init_ok h) ?_
            exact concat_scan h a c _ rfl (by omega) (by omega) hf _ 0 _ rfl (by omega) hs.1 ⟨hs.2.1, hs.2.2.1⟩ hf rfl
end Go.Proofs.Ytelklgdmhnkenaa.U
