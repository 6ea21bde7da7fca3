/- Plain Lean: the guards of the laws of layer 26. -/
import Derived.Test.YtelklgdmhnkenaaPlainB
import Derived.Test.YtelklgdmhnkenaaGivenC
namespace Go.Proofs.Ytelklgdmhnkenaa.U
open Go.RowKit Go.Proofs.YtelklgdmhnkenaaW.PrintWords Go.Proofs.YtelklgdmhnkenaaW.PrintLast Go.Proofs.YtelklgdmhnkenaaW.PrintMore
set_option linter.unusedVariables false
theorem guard_law {b m : Int} {l : List S99} {up dn st id sp on : Int} (J : Nat → Bool → Option Bool) (row : List Bool) (h1 : Evs (fun k => J k true) true) (h2 : Okay b m l up dn st id sp on → row.length ≤ 100 → Evs (fun k => J k false) true) :
    Evs (fun k => (pylonlaw26_Long.f b m l up dn st id sp on row).bind fun t => if t = true then J k true else (pylonlaw26_may.f k b m l up dn st id sp on).bind fun t => if t = true then (pylonlaw26_awake.f).bind fun t => J k (!t) else J k true) true := by
  unfold pylonlaw26_Long.f
  by_cases hl : (l.length : Int) > 100
  · simp only [if_pos hl, Option.bind_some, if_true]
    exact h1
  · simp only [if_neg hl, Option.bind_some, decide_eq_true_eq]
    by_cases hr : (row.length : Int) > 100
    · simp only [if_pos hr]
      exact h1
    · simp only [if_neg hr]
      refine Evs.bind (lawmay_f b m l up dn st id sp on) ?_
      cases hk : okB b m l up dn st id sp on
      · simp only [Bool.false_eq_true, if_false]
        exact h1
      · simp only [if_true]
        exact h2 (okB_iff.1 hk) (by omega)
section
variable {b m : Int} {l : List S99} {up dn st id sp on : Int}
theorem nx_stay (h : Okay b m l up dn st id sp on) {s : Int} (h1 : -dn ≤ s ∧ s ≤ up) {x : Bool} (hs : if x = true then 0 < s else s < 0) : (nxF up dn s x).2 = true := by
  have hu := h.up1; have hd := h.dn1
  unfold nxF
  cases x
  · have : s < 0 := by simpa using hs
    simp [this]
  · have : 0 < s := by simpa using hs
    simp [this]
theorem feasL_stay (h : Okay b m l up dn st id sp on) (x : Bool) : ∀ (n : Nat) (s : Int), s ≠ 0 → -dn ≤ s ∧ s ≤ up → (if x = true then 0 < s else s < 0) → feasL up dn s (List.replicate n x) = true
  | 0, _, _, _, _ => rfl
  | n + 1, s, h0, h1, hs => by
    have e := nx_stay h h1 hs
    obtain ⟨n0, n1, n2, n3⟩ := nx_state h h0 h1 e
    rw [List.replicate_succ, feasL, e, Bool.true_and]
    refine feasL_stay h x n _ n0 ⟨n1, n2⟩ ?_
    cases x
    · simp at n3 ⊢
      omega
    · simpa using n3
end
end Go.Proofs.Ytelklgdmhnkenaa.U
