/- Plain Lean: what the printed functions of the packages step and unit come to. -/
import Derived.Test.YtelklgdmhnkenaaUxf23
import Derived.Test.YtelklgdmhnkenaaUxf34
namespace Go.Proofs.Ytelklgdmhnkenaa.U
open Go.RowKit Go.Proofs.YtelklgdmhnkenaaW.PrintWords Go.Proofs.YtelklgdmhnkenaaW.PrintLast Go.Proofs.YtelklgdmhnkenaaW.PrintMore
set_option linter.unusedVariables false
set_option linter.unusedSimpArgs false

/-- From some number of rounds on, the answer is r. -/
def Evs {α : Type} (g : Nat → Option α) (r : α) : Prop := ∃ K, ∀ k, K ≤ k → g k = some r
theorem Evs.const {α : Type} {o : Option α} {r : α} (h : o = some r) : Evs (fun _ => o) r := ⟨0, fun _ _ => h⟩
theorem Evs.all {α : Type} {g : Nat → Option α} {r : α} (h : ∀ k, g k = some r) : Evs g r := ⟨0, fun k _ => h k⟩
theorem Evs.bind {α β : Type} {g : Nat → Option α} {f : Nat → α → Option β} {a : α} {r : β} (h : Evs g a) (h2 : Evs (fun k => f k a) r) : Evs (fun k => (g k).bind (f k)) r := by
  obtain ⟨K, hK⟩ := h
  obtain ⟨K2, hK2⟩ := h2
  exact ⟨K + K2, fun k hk => by show (g k).bind (f k) = some r; rw [hK k (by omega)]; exact hK2 k (by omega)⟩
theorem Evs.succ {α : Type} {g : Nat → Option α} {r : α} (h : Evs (fun k => g (k + 1)) r) : Evs g r := by
  obtain ⟨K, hK⟩ := h
  exact ⟨K + 1, fun k hk => by obtain ⟨m, rfl⟩ : ∃ m, k = m + 1 := ⟨k - 1, by omega⟩; exact hK m (by omega)⟩
theorem Evs.congr {α : Type} {g g' : Nat → Option α} {r : α} (h : Evs g r) (e : ∀ k, g' k = g k) : Evs g' r := by
  obtain ⟨K, hK⟩ := h
  exact ⟨K, fun k hk => (e k).trans (hK k hk)⟩
theorem Evs.some {α : Type} {g : Nat → Option α} {r : α} (h : Evs g r) : ∃ k, g k = Option.some r := by
  obtain ⟨K, hK⟩ := h
  exact ⟨K, hK K (Nat.le_refl _)⟩

def inB (a lo hi : Int) : Bool := decide (lo ≤ a) && decide (a ≤ hi)
theorem within_f (a lo hi : Int) : unit_within_int.f a lo hi = some (inB a lo hi) := by
  unfold unit_within_int.f inB
  by_cases h : a ≥ lo
  · rw [if_pos h]
    have : lo ≤ a := h
    simp [this]
  · rw [if_neg h]
    have : ¬ lo ≤ a := h
    simp [this]
theorem within64_f (a lo hi : Int) : unit_within_int64.f a lo hi = some (inB a lo hi) := within_f a lo hi

/-! ### curves -/
def qsum (l : List S99) : Int := (l.map (·.f0)).sum
theorem qsum_cons (x : S99) (l : List S99) : qsum (x :: l) = x.f0 + qsum l := by simp [qsum]
def curveF (l : List S99) : Int := if wrongF false l = 0 then 0 else wrongF true l
def sumF (l : List S99) : Int := if curveF l = 0 then qsum l else 0
def maxF (l : List S99) : Int := if wrongF true l = 0 then qsum l else 0
theorem wrongFrom_ok {up : Bool} : ∀ {prev : Option Int} {l : List S99}, wrongFrom up prev l = 0 → ∀ x ∈ l, 1 ≤ x.f0 ∧ x.f0 ≤ 1000000 ∧ -1000000 ≤ x.f1 ∧ x.f1 ≤ 1000000
  | _, [], _ => fun x hx => by cases hx
  | prev, y :: l, h => by
    unfold wrongFrom at h
    by_cases h1 : y.f0 < 1 ∨ 1000000 < y.f0 ∨ y.f1 < -1000000 ∨ 1000000 < y.f1
    · rw [if_pos h1] at h
      omega
    · rw [if_neg h1] at h
      generalize cutB up prev y.f1 = c at h
      cases c
      · intro x hx
        rcases List.mem_cons.1 hx with rfl | hx
        · omega
        · exact wrongFrom_ok (show wrongFrom up (some y.f1) l = 0 from h) x hx
      · exact absurd (show (3 : Int) = 0 from h) (by decide)
theorem wrongF_ok {up : Bool} {l : List S99} (h : wrongF up l = 0) : l.length ≤ 3 ∧ 0 < l.length ∧ ∀ x ∈ l, 1 ≤ x.f0 ∧ x.f0 ≤ 1000000 ∧ -1000000 ≤ x.f1 ∧ x.f1 ≤ 1000000 := by
  unfold wrongF at h
  by_cases h0 : l.length = 0
  · rw [if_pos h0] at h
    omega
  · rw [if_neg h0] at h
    by_cases h3 : 3 < l.length
    · rw [if_pos h3] at h
      omega
    · rw [if_neg h3] at h
      exact ⟨by omega, by omega, wrongFrom_ok h⟩
theorem wrongFrom_nonneg (up : Bool) : ∀ (prev : Option Int) (l : List S99), 0 ≤ wrongFrom up prev l ∧ wrongFrom up prev l ≤ 5
  | _, [] => by simp [wrongFrom]
  | prev, y :: l => by
    unfold wrongFrom
    have := wrongFrom_nonneg up (some y.f1) l
    split
    · omega
    · generalize cutB up prev y.f1 = c
      cases c
      · exact this
      · exact ⟨by simp, by simp⟩
theorem wrongF_nonneg (up : Bool) (l : List S99) : 0 ≤ wrongF up l ∧ wrongF up l ≤ 5 := by
  unfold wrongF
  have := wrongFrom_nonneg up none l
  split
  · omega
  · split
    · omega
    · exact this
theorem qsum_bound : ∀ {l : List S99}, (∀ x ∈ l, 1 ≤ x.f0 ∧ x.f0 ≤ 1000000 ∧ -1000000 ≤ x.f1 ∧ x.f1 ≤ 1000000) → 0 ≤ qsum l ∧ qsum l ≤ l.length * 1000000 ∧ (l.length : Int) ≤ qsum l
  | [], _ => by simp [qsum]
  | y :: l, h => by
    have h1 := h y List.mem_cons_self
    have h2 := qsum_bound (l := l) (fun x hx => h x (List.mem_cons_of_mem _ hx))
    rw [qsum_cons, List.length_cons]
    omega
theorem wrap_id {x : Int} (h0 : -9223372036854775808 ≤ x) (h1 : x ≤ 9223372036854775807) : wrap64 x = x := by unfold wrap64; omega

theorem curve_f (l : List S99) : step_curve.f l = some (curveF l) := by
  unfold step_curve.f step_CheckBid.f step_CheckOffer.f curveF
  simp only [Option.bind_some]
  split <;> rfl
theorem curve_ok {l : List S99} (h : curveF l = 0) : l.length ≤ 3 ∧ 0 < l.length ∧ ∀ x ∈ l, 1 ≤ x.f0 ∧ x.f0 ≤ 1000000 ∧ -1000000 ≤ x.f1 ∧ x.f1 ≤ 1000000 := by
  unfold curveF at h
  by_cases h1 : wrongF false l = 0
  · exact wrongF_ok h1
  · rw [if_neg h1] at h
    exact wrongF_ok h
theorem sum_loop (l : List S99) (hl : l.length ≤ 3) (hx : ∀ x ∈ l, 1 ≤ x.f0 ∧ x.f0 ≤ 1000000 ∧ -1000000 ≤ x.f1 ∧ x.f1 ≤ 1000000) (d : Nat) : ∀ (i : Nat) (acc : Int), l.length - i = d → i ≤ l.length → 0 ≤ acc → acc ≤ 1000000 * i →
    Evs (fun k => step_Sum.l0 k acc l (l.length : Int) (i : Int)) (acc + qsum (l.drop i)) := by
  induction d with
  | zero =>
    intro i acc hd hi h0 h1
    refine Evs.succ (Evs.all fun k => ?_)
    simp only [step_Sum.l0]
    rw [if_neg (by omega), List.drop_eq_nil_of_le (by omega)]
    simp [qsum]
  | succ d ih =>
    intro i acc hd hi h0 h1
    have hlt : i < l.length := by omega
    have hx1 := hx l[i] (List.getElem_mem hlt)
    have e := rd99 l i hlt
    have h := ih (i + 1) (acc + l[i].f0) (by omega) (by omega) (by omega) (by omega)
    rw [Int.add_assoc, ← qsum_cons, ← List.drop_eq_getElem_cons hlt] at h
    refine Evs.succ (h.congr fun k => ?_)
    simp only [step_Sum.l0]
    rw [if_pos (by omega), if_pos (by omega), if_pos (by omega), e, wrap_id (x := acc + l[i].f0) (by omega) (by omega), wrap_id (x := (i : Int) + 1) (by omega) (by omega)]
    rfl
theorem sum_f (l : List S99) : Evs (fun k => step_Sum.f k l) (sumF l) := by
  unfold step_Sum.f sumF
  simp only [curve_f, Option.bind_some]
  by_cases h : curveF l = 0
  · simp only [if_pos h]
    obtain ⟨h1, h2, h3⟩ := curve_ok h
    have := sum_loop l h1 h3 l.length 0 0 (by omega) (by omega) (by omega) (by omega)
    rw [Int.zero_add, List.drop_zero] at this
    exact this
  · simp only [if_neg h]
    exact Evs.const rfl
theorem max_f (a0 a1 : Int) (l : List S99) (a3 a4 a5 a6 a7 a8 : Int) : Evs (fun k => unit_Max.f k a0 a1 l a3 a4 a5 a6 a7 a8) (maxF l) := by
  unfold unit_Max.f maxF step_CheckOffer.f
  simp only [Option.bind_some]
  by_cases h : wrongF true l = 0
  · simp only [if_pos h]
    refine Evs.bind (sum_f l) (Evs.const ?_)
    unfold sumF curveF
    rw [h]
    simp
  · simp only [if_neg h]
    exact Evs.const rfl

/-! ### units -/
def checkF (b m : Int) (l : List S99) (up dn st id sp on buses : Int) : Int :=
  if (!(inB b 0 (wrap64 (buses - 1))) || decide (buses < 1)) = true then 1
  else if wrongF true l = 0 then
    (if (inB m 0 (maxF l) && inB sp 0 1000000 && (inB up 1 6 && inB dn 1 6 && inB on (-6) 6 && (on != 0)) && (inB st 0 1000000000 && inB id 0 1000000000)) = true then 0 else 1)
  else wrongF true l
theorem check_f (b m : Int) (l : List S99) (up dn st id sp on buses : Int) : Evs (fun k => unit_Check.f k b m l up dn st id sp on buses) (checkF b m l up dn st id sp on buses) := by
  obtain ⟨K, hK⟩ := max_f b m l up dn st id sp on
  refine ⟨K + 3, fun k hk => ?_⟩
  obtain ⟨k, rfl⟩ : ∃ j, k = j + 3 := ⟨k - 3, by omega⟩
  have hm := hK (k + 2) (by omega)
  unfold unit_Check.f checkF
  simp only [within_f, Option.bind_some]
  generalize inB b 0 (wrap64 (buses - 1)) = w1
  generalize decide (buses < 1) = w2
  simp only [unit_Check.j0, unit_Check.j1, unit_Check.j2, within_f, within64_f, Option.bind_some, step_CheckOffer.f, hm]
  generalize inB m 0 (maxF l) = w3
  generalize inB sp 0 1000000 = w4
  generalize inB up 1 6 = w5
  generalize inB dn 1 6 = w6
  generalize inB on (-6) 6 = w7
  generalize (on != 0) = w8
  generalize inB st 0 1000000000 = w9
  generalize inB id 0 1000000000 = w10
  generalize wrongF true l = e
  by_cases he : e = 0
  · simp only [he, if_true]
    cases w1 <;> cases w2 <;> try rfl
    cases w3 <;> cases w4 <;> cases w5 <;> cases w6 <;> cases w7 <;> cases w8 <;> cases w9 <;> cases w10 <;> rfl
  · simp only [he, if_false]
    cases w1 <;> cases w2 <;> rfl
end Go.Proofs.Ytelklgdmhnkenaa.U
