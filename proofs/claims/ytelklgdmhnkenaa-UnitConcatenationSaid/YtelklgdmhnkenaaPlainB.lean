/- Plain Lean: what the printed functions of the package unit come to. -/
import Derived.Test.YtelklgdmhnkenaaGivenB
import Derived.Test.YtelklgdmhnkenaaUxf16
import Derived.Test.YtelklgdmhnkenaaUxf21
import Derived.Test.YtelklgdmhnkenaaUxf22
import Derived.Test.YtelklgdmhnkenaaUxf24
import Derived.Test.YtelklgdmhnkenaaUxf25
import Derived.Test.YtelklgdmhnkenaaUxf28
namespace Go.Proofs.Ytelklgdmhnkenaa.U
open Go.RowKit Go.Proofs.YtelklgdmhnkenaaW.PrintWords Go.Proofs.YtelklgdmhnkenaaW.PrintLast Go.Proofs.YtelklgdmhnkenaaW.PrintMore
set_option linter.unusedVariables false
set_option linter.unusedSimpArgs false

theorem rdOf_at {α : Type} (d : α) (l : List α) (i : Nat) (h : i < l.length) : rdOf d l (i : Int) = l[i] := by
  unfold rdOf
  simp [h]
/-- What a valid unit keeps to. -/
structure Okay (b m : Int) (l : List S99) (up dn st id sp on : Int) : Prop where
  bus : 0 ≤ b ∧ b ≤ 5
  offer : wrongF true l = 0
  min : 0 ≤ m ∧ m ≤ qsum l
  up1 : 1 ≤ up ∧ up ≤ 6
  dn1 : 1 ≤ dn ∧ dn ≤ 6
  st1 : 0 ≤ st ∧ st ≤ 1000000000
  id1 : 0 ≤ id ∧ id ≤ 1000000000
  sp1 : 0 ≤ sp ∧ sp ≤ 1000000
  on1 : -6 ≤ on ∧ on ≤ 6 ∧ on ≠ 0
theorem okay_iff (b m : Int) (l : List S99) (up dn st id sp on : Int) : checkF b m l up dn st id sp on 6 = 0 ↔ Okay b m l up dn st id sp on := by
  have hw := wrongF_nonneg true l
  have e6 : wrap64 ((6 : Int) - 1) = 5 := wrap_id (by omega) (by omega)
  unfold checkF
  rw [e6]
  constructor
  · intro h
    split at h
    · omega
    · rename_i h1
      split at h
      · rename_i h2
        split at h
        · rename_i h3
          simp [inB, maxF, h2] at h1 h3
          refine ⟨by omega, h2, by omega, by omega, by omega, by omega, by omega, by omega, by omega⟩
        · omega
      · omega
  · rintro ⟨h0, h1, h2, h3, h4, h5, h6, h7, h8⟩
    rw [if_neg, if_pos h1, if_pos]
    · simp [inB, maxF, h1]
      omega
    · simp [inB]
      omega
section
variable {b m : Int} {l : List S99} {up dn st id sp on : Int}
def okB (b m : Int) (l : List S99) (up dn st id sp on : Int) : Bool := checkF b m l up dn st id sp on 6 == 0
theorem okB_iff : okB b m l up dn st id sp on = true ↔ Okay b m l up dn st id sp on := by
  unfold okB
  rw [beq_iff_eq]
  exact okay_iff _ _ _ _ _ _ _ _ _
theorem okB_false (h : okB b m l up dn st id sp on = false) : ¬ Okay b m l up dn st id sp on := fun h1 => by rw [okB_iff.2 h1] at h; cases h
theorem lawmay_f (b m : Int) (l : List S99) (up dn st id sp on : Int) : Evs (fun k => pylonlaw26_may.f k b m l up dn st id sp on) (okB b m l up dn st id sp on) := by
  unfold pylonlaw26_may.f okB
  exact Evs.bind (check_f b m l up dn st id sp on 6) (Evs.const rfl)
theorem may_f2 (b m : Int) (l : List S99) (up dn st id sp on : Int) : Evs (fun k => unit_may.f k b m l up dn st id sp on) (okB b m l up dn st id sp on) := may_f b m l up dn st id sp on
theorem next_evs (b m : Int) (l : List S99) (up dn st id sp on s : Int) (x : Bool) : Evs (fun k => unit_next.f k b m l up dn st id sp on s x) (nxF up dn s x) := by
  refine ⟨3, fun k hk => ?_⟩
  obtain ⟨k, rfl⟩ : ∃ j, k = 3 + j := ⟨k - 3, by omega⟩
  clear hk
  induction k with
  | zero => exact next_f b m l up dn st id sp on s x
  | succ k ih => exact unit_next.mono _ _ _ _ _ _ _ _ _ _ _ (3 + k) _ ih

/-- The first state. -/
def ini (up dn on : Int) : Int := mx (-dn) (mn up on)
def feasL (up dn : Int) : Int → List Bool → Bool
  | _, [] => true
  | s, x :: r => (nxF up dn s x).2 && feasL up dn (nxF up dn s x).1 r
def endL (up dn : Int) : Int → List Bool → Int
  | s, [] => s
  | s, x :: r => endL up dn (nxF up dn s x).1 r
def startsL : Bool → List Bool → Int
  | _, [] => 0
  | was, x :: r => (if x = true ∧ was = false then 1 else 0) + startsL x r
def onsL : List Bool → Int
  | [] => 0
  | x :: r => (if x = true then 1 else 0) + onsL r
theorem startsL_bound : ∀ (was : Bool) (r : List Bool), 0 ≤ startsL was r ∧ startsL was r ≤ r.length
  | _, [] => by simp [startsL]
  | was, x :: r => by
    have := startsL_bound x r
    rw [startsL, List.length_cons]
    split <;> omega
theorem onsL_bound : ∀ (r : List Bool), 0 ≤ onsL r ∧ onsL r ≤ r.length
  | [] => by simp [onsL]
  | x :: r => by
    have := onsL_bound r
    rw [onsL, List.length_cons]
    split <;> omega
theorem initF_ok (h : Okay b m l up dn st id sp on) : initF b m l up dn st id sp on = ini up dn on := by
  have h4 := h.dn1
  unfold initF ini
  rw [if_pos ((okay_iff _ _ _ _ _ _ _ _ _).2 h), wrap_id (by omega) (by omega)]
theorem init_ok (h : Okay b m l up dn st id sp on) : Evs (fun k => unit_Initial.f k b m l up dn st id sp on) (ini up dn on) := by
  rw [← initF_ok h]
  exact init_f b m l up dn st id sp on

theorem feas_loop (b m : Int) (l : List S99) (up dn st id sp on : Int) (row : List Bool) (hl : row.length ≤ 1000000) (d : Nat) : ∀ (i : Nat) (s : Int), row.length - i = d → i ≤ row.length →
    Evs (fun k => unit_Feasible.l0 k s row (row.length : Int) (i : Int) b m l up dn st id sp on) (feasL up dn s (row.drop i)) := by
  induction d with
  | zero =>
    intro i s hd hi
    refine Evs.succ (Evs.all fun k => ?_)
    simp only [unit_Feasible.l0]
    rw [if_neg (by omega), List.drop_eq_nil_of_le (by omega)]
    rfl
  | succ d ih =>
    intro i s hd hi
    have hlt : i < row.length := by omega
    rw [List.drop_eq_getElem_cons hlt, feasL]
    refine Evs.succ ?_
    simp only [unit_Feasible.l0]
    rw [rdOf_at _ _ _ hlt, wrap_id (by omega) (by omega)]
    refine Evs.congr (g := fun k => (unit_next.f k b m l up dn st id sp on s row[i]).bind fun bt139 => if bt139.2 = true then unit_Feasible.l0 k bt139.1 row (row.length : Int) ((i : Int) + 1) b m l up dn st id sp on else some false) ?_ (fun k => by rw [if_pos (by omega), if_pos (by omega), if_pos (by omega)])
    refine Evs.bind (next_evs b m l up dn st id sp on s row[i]) ?_
    cases hn : (nxF up dn s row[i]).2
    · simp only [Bool.false_and]
      exact Evs.const rfl
    · simp only [if_true, Bool.true_and]
      exact ih (i + 1) _ (by omega) (by omega)
theorem feas_f (b m : Int) (l : List S99) (up dn st id sp on : Int) (row : List Bool) (hl : row.length ≤ 1000000) : Evs (fun k => unit_Feasible.f k b m l up dn st id sp on row) (okB b m l up dn st id sp on && feasL up dn (ini up dn on) row) := by
  unfold unit_Feasible.f
  refine Evs.bind (may_f2 b m l up dn st id sp on) ?_
  cases h : okB b m l up dn st id sp on
  · exact Evs.const rfl
  · simp only [if_true, Bool.true_and]
    refine Evs.bind (init_ok (okB_iff.1 h)) ?_
    have := feas_loop b m l up dn st id sp on row hl row.length 0 (ini up dn on) (by omega) (by omega)
    rwa [List.drop_zero] at this
theorem feas_ok (h : Okay b m l up dn st id sp on) (row : List Bool) (hl : row.length ≤ 1000000) : Evs (fun k => unit_Feasible.f k b m l up dn st id sp on row) (feasL up dn (ini up dn on) row) := by
  have := feas_f b m l up dn st id sp on row hl
  rwa [okB_iff.2 h, Bool.true_and] at this
theorem starts_loop (row : List Bool) (hl : row.length ≤ 1000000) (d : Nat) : ∀ (i : Nat) (n : Int) (was : Bool), row.length - i = d → i ≤ row.length → 0 ≤ n → n ≤ i →
    Evs (fun k => unit_Starts.l0 k n was row (row.length : Int) (i : Int)) (n + startsL was (row.drop i)) := by
  induction d with
  | zero =>
    intro i n was hd hi h0 h1
    refine Evs.succ (Evs.all fun k => ?_)
    simp only [unit_Starts.l0]
    rw [if_neg (by omega), List.drop_eq_nil_of_le (by omega)]
    simp [startsL]
  | succ d ih =>
    intro i n was hd hi h0 h1
    have hlt : i < row.length := by omega
    rw [List.drop_eq_getElem_cons hlt, startsL]
    refine Evs.succ ?_
    simp only [unit_Starts.l0]
    rw [rdOf_at _ _ _ hlt, wrap_id (x := (i : Int) + 1) (by omega) (by omega), wrap_id (x := n + 1) (by omega) (by omega)]
    have a := ih (i + 1) n row[i] (by omega) (by omega) (by omega) (by omega)
    have c := ih (i + 1) (n + 1) row[i] (by omega) (by omega) (by omega) (by omega)
    refine Evs.congr (g := fun k => if row[i] = true then (if was = true then unit_Starts.l0 k n row[i] row (row.length : Int) ((i : Int) + 1) else unit_Starts.l0 k (n + 1) row[i] row (row.length : Int) ((i : Int) + 1)) else unit_Starts.l0 k n row[i] row (row.length : Int) ((i : Int) + 1)) ?_ (fun k => by rw [if_pos (by omega), if_pos (by omega), if_pos (by omega)])
    by_cases hr : row[i] = true
    · simp only [hr, if_true] at a c ⊢
      cases was
      · simpa [Int.add_assoc] using c
      · simpa using a
    · simp only [hr, if_false] at a c ⊢
      simpa [hr] using a
theorem starts_f (b m : Int) (l : List S99) (up dn st id sp on : Int) (row : List Bool) (hl : row.length ≤ 1000000) : Evs (fun k => unit_Starts.f k b m l up dn st id sp on row) (if okB b m l up dn st id sp on = true then startsL (decide (on > 0)) row else 0) := by
  unfold unit_Starts.f
  refine Evs.bind (may_f2 b m l up dn st id sp on) ?_
  cases h : okB b m l up dn st id sp on
  · exact Evs.const rfl
  · simp only [if_true]
    have := starts_loop row hl row.length 0 0 (decide (on > 0)) (by omega) (by omega) (by omega) (by omega)
    rwa [List.drop_zero, Int.zero_add] at this
theorem starts_ok (h : Okay b m l up dn st id sp on) (row : List Bool) (hl : row.length ≤ 1000000) : Evs (fun k => unit_Starts.f k b m l up dn st id sp on row) (startsL (decide (on > 0)) row) := by
  have := starts_f b m l up dn st id sp on row hl
  rwa [if_pos (okB_iff.2 h)] at this
theorem cost_loop (b m : Int) (l : List S99) (up dn st id sp on : Int) (hid : 0 ≤ id ∧ id ≤ 1000000000) (row : List Bool) (hl : row.length ≤ 1000000) (d : Nat) : ∀ (i : Nat) (n : Int), row.length - i = d → i ≤ row.length → 0 ≤ n → n ≤ 1000000 * 1000000000 + i * 1000000000 →
    Evs (fun k => unit_FixedCost.l0 k n row (row.length : Int) (i : Int) b m l up dn st id sp on) (n + onsL (row.drop i) * id) := by
  induction d with
  | zero =>
    intro i n hd hi h0 h1
    refine Evs.succ (Evs.all fun k => ?_)
    simp only [unit_FixedCost.l0]
    rw [if_neg (by omega), List.drop_eq_nil_of_le (by omega)]
    simp [onsL]
  | succ d ih =>
    intro i n hd hi h0 h1
    have hlt : i < row.length := by omega
    rw [List.drop_eq_getElem_cons hlt, onsL]
    refine Evs.succ ?_
    simp only [unit_FixedCost.l0]
    rw [rdOf_at _ _ _ hlt, wrap_id (x := (i : Int) + 1) (by omega) (by omega), wrap_id (x := n + id) (by omega) (by omega)]
    have a := ih (i + 1) n (by omega) (by omega) (by omega) (by omega)
    have c := ih (i + 1) (n + id) (by omega) (by omega) (by omega) (by omega)
    refine Evs.congr (g := fun k => if row[i] = true then unit_FixedCost.l0 k (n + id) row (row.length : Int) ((i : Int) + 1) b m l up dn st id sp on else unit_FixedCost.l0 k n row (row.length : Int) ((i : Int) + 1) b m l up dn st id sp on) ?_ (fun k => by rw [if_pos (by omega), if_pos (by omega), if_pos (by omega)])
    by_cases hr : row[i] = true
    · simp only [hr, if_true] at a c ⊢
      rw [Int.add_mul, Int.one_mul, ← Int.add_assoc]
      exact c
    · simp only [hr, if_false, Bool.false_eq_true, Int.zero_add] at a c ⊢
      exact a
theorem cost_ok (h : Okay b m l up dn st id sp on) (row : List Bool) (hl : row.length ≤ 1000000) : Evs (fun k => unit_FixedCost.f k b m l up dn st id sp on row) (startsL (decide (on > 0)) row * st + onsL row * id) := by
  have hs := startsL_bound (decide (on > 0)) row
  have h1 := h.st1
  have hm : 0 ≤ startsL (decide (on > 0)) row * st := Int.mul_nonneg hs.1 h1.1
  have hm2 : startsL (decide (on > 0)) row * st ≤ 1000000 * 1000000000 := Int.mul_le_mul (by omega) (by omega) (by omega) (by omega)
  unfold unit_FixedCost.f
  refine Evs.bind (may_f2 b m l up dn st id sp on) ?_
  simp only [okB_iff.2 h, if_true]
  refine Evs.bind (starts_ok h row hl) ?_
  rw [wrap_id (by omega) (by omega)]
  have := cost_loop b m l up dn st id sp on h.id1 row hl row.length 0 (startsL (decide (on > 0)) row * st) (by omega) (by omega) hm (by omega)
  rwa [List.drop_zero] at this
theorem pubnext_ok (h : Okay b m l up dn st id sp on) (s : Int) (x : Bool) (h0 : s ≠ 0) (h1 : -dn ≤ s ∧ s ≤ up) : Evs (fun k => unit_Next.f k b m l up dn st id sp on s x) (nxF up dn s x) := by
  have h4 := h.dn1
  unfold unit_Next.f
  refine Evs.bind (may_f2 b m l up dn st id sp on) ?_
  simp only [okB_iff.2 h, if_true, if_neg h0, within_f, Option.bind_some]
  rw [wrap_id (x := -dn) (by omega) (by omega), show inB s (-dn) up = true by simp [inB, h1]]
  simp only [if_true]
  exact Evs.bind (next_evs b m l up dn st id sp on s x) (Evs.const rfl)

/-! ### states -/
theorem ini_state (h : Okay b m l up dn st id sp on) : ini up dn on ≠ 0 ∧ -dn ≤ ini up dn on ∧ ini up dn on ≤ up ∧ (0 < ini up dn on ↔ 0 < on) := by
  have := h.up1; have := h.dn1; have := h.on1
  unfold ini mx mn
  split <;> split <;> omega
theorem nx_state (h : Okay b m l up dn st id sp on) {s : Int} {x : Bool} (h0 : s ≠ 0) (h1 : -dn ≤ s ∧ s ≤ up) (h2 : (nxF up dn s x).2 = true) :
    (nxF up dn s x).1 ≠ 0 ∧ -dn ≤ (nxF up dn s x).1 ∧ (nxF up dn s x).1 ≤ up ∧ (0 < (nxF up dn s x).1 ↔ x = true) := by
  have := h.up1; have := h.dn1
  revert h2
  unfold nxF mx mn
  rw [wrap_id (x := -dn) (by omega) (by omega), wrap_id (x := s + 1) (by omega) (by omega), wrap_id (x := s - 1) (by omega) (by omega)]
  cases x
  · by_cases a : s < 0
    · simp [a]; split <;> split <;> omega
    · by_cases c : s = up
      · have : ¬ up < 0 := by omega
        simp [c, this]; omega
      · simp [a, c]
  · by_cases a : s > 0
    · simp [a]; split <;> split <;> omega
    · by_cases c : s = -dn
      · have : ¬ dn < 0 := by omega
        simp [c, this]; omega
      · simp [a, c]
theorem nx_not {s : Int} {x : Bool} (h : Okay b m l up dn st id sp on) (h0 : s ≠ 0) (h2 : (nxF up dn s x).2 = false) : (nxF up dn s x).1 = 0 ∧ x ≠ decide (s > 0) ∧ s ≠ up ∧ s ≠ -dn := by
  have := h.up1; have := h.dn1
  revert h2
  unfold nxF
  rw [wrap_id (x := -dn) (by omega) (by omega)]
  cases x
  · by_cases a : s < 0
    · simp [a]
    · by_cases c : s = up
      · have : ¬ up < 0 := by omega
        simp [c, this]
      · simp [a, c]; omega
  · by_cases a : s > 0
    · simp [a]
    · by_cases c : s = -dn
      · have : ¬ dn < 0 := by omega
        simp [c, this]
      · simp [a, c]; omega
end
end Go.Proofs.Ytelklgdmhnkenaa.U
