/- Plain Lean: all rows of hours, and the comparisons of the reference of layer 26. -/
import Derived.Test.YtelklgdmhnkenaaPlainG
import Derived.Test.YtelklgdmhnkenaaUxf26
import Derived.Test.YtelklgdmhnkenaaUxf27
import Derived.Test.YtelklgdmhnkenaaUxf43
namespace Go.Proofs.Ytelklgdmhnkenaa.U
open Go.RowKit Go.Proofs.YtelklgdmhnkenaaW.PrintWords Go.Proofs.YtelklgdmhnkenaaW.PrintLast Go.Proofs.YtelklgdmhnkenaaW.PrintMore
set_option linter.unusedVariables false
set_option linter.unusedSimpArgs false
theorem rd_L5_at (l : List (List Bool)) (i : Nat) (h : i < l.length) : rd_L5 l (i : Int) = l[i] := by
  unfold rd_L5
  simp [h]
def allL : Nat → List (List Bool)
  | 0 => [[]]
  | d + 1 => (allL d).map (false :: ·) ++ (allL d).map (true :: ·)
theorem allL_length : ∀ d, (allL d).length = 2 ^ d
  | 0 => rfl
  | d + 1 => by rw [allL, List.length_append, List.length_map, List.length_map, allL_length d, Nat.pow_succ]; omega
theorem allL_mem : ∀ (d : Nat) (r : List Bool), r ∈ allL d → r.length = d
  | 0, r, h => by simp [allL] at h; subst h; rfl
  | d + 1, r, h => by
    simp only [allL, List.mem_append, List.mem_map] at h
    rcases h with ⟨a, ha, rfl⟩ | ⟨a, ha, rfl⟩ <;> simp [allL_mem d a ha]
theorem allL_rep (x : Bool) : ∀ (d : Nat), List.replicate d x ∈ allL d
  | 0 => by simp [allL]
  | d + 1 => by
    simp only [allL, List.mem_append, List.mem_map, List.replicate_succ]
    cases x
    · exact Or.inl ⟨_, allL_rep false d, rfl⟩
    · exact Or.inr ⟨_, allL_rep true d, rfl⟩
theorem pow8 {d : Nat} (h : d ≤ 8) : 2 ^ d ≤ 256 := Nat.le_trans (Nat.pow_le_pow_right (by omega) h) (by decide)
theorem all_l1 (xs : List (List Bool)) (hl : xs.length ≤ 256) (hm : ∀ r ∈ xs, r.length ≤ 1000) (b : Int) (B : Nat) (hB : B ≤ 100000) (R : List (List Bool) → List (List Bool))
    (hn : ∀ acc : List (List Bool), acc.length ≤ B → Evs (fun k => pylonref26_all.l0 k acc xs (wrap64 (b + 1))) (R acc)) (d : Nat) : ∀ (i : Nat) (acc : List (List Bool)), xs.length - i = d → i ≤ xs.length → acc.length + (xs.length - i) ≤ B →
    Evs (fun k => pylonref26_all.l1 k acc xs b (i : Int)) (R (acc ++ (xs.drop i).map ((b == 1) :: ·))) := by
  induction d with
  | zero =>
    intro i acc hd hi ha
    refine Evs.succ ?_
    simp only [pylonref26_all.l1]
    rw [List.drop_eq_nil_of_le (by omega), List.map_nil, List.append_nil]
    simp only [if_neg (show ¬ (i : Int) < (xs.length : Int) by omega)]
    exact hn acc (by omega)
  | succ d ih =>
    intro i acc hd hi ha
    have hlt : i < xs.length := by omega
    have hmi := hm _ (List.getElem_mem hlt)
    have a := ih (i + 1) (acc ++ [(b == 1) :: xs[i]]) (by omega) (by omega) (by simp; omega)
    rw [List.append_assoc, List.singleton_append, ← List.map_cons (f := ((b == 1) :: ·)), ← List.drop_eq_getElem_cons hlt] at a
    refine Evs.succ ?_
    simp only [pylonref26_all.l1]
    rw [wrap_id (x := (i : Int) + 1) (by omega) (by omega), rd_L5_at _ _ hlt]
    refine a.congr fun k => ?_
    rw [if_pos (by omega)]
    simp only [Option.bind_some]
    rw [if_pos (by omega), if_pos (by simp; omega), if_pos (by omega)]
    rfl
theorem all_f : ∀ (d : Nat), d ≤ 8 → Evs (fun k => pylonref26_all.f k (d : Int)) (allL d)
  | 0, _ => Evs.succ (Evs.all fun k => by simp only [pylonref26_all.f]; rfl)
  | d + 1, h => by
    have hl : (allL d).length ≤ 256 := by rw [allL_length]; exact pow8 (by omega)
    have hm : ∀ r ∈ allL d, r.length ≤ 1000 := fun r hr => by rw [allL_mem d r hr]; omega
    refine Evs.succ ?_
    simp only [pylonref26_all.f]
    simp only [if_neg (show ¬ (((d + 1 : Nat) : Int) = 0) by omega)]
    rw [show wrap64 (((d + 1 : Nat) : Int) - 1) = (d : Int) by rw [wrap_id (by omega) (by omega)]; omega]
    refine Evs.bind (all_f d (by omega)) ?_
    have s2 : ∀ acc : List (List Bool), Evs (fun k => pylonref26_all.l0 k acc (allL d) 2) acc := fun acc => Evs.succ (Evs.all fun k => by simp only [pylonref26_all.l0]; rfl)
    have t1 := fun (acc : List (List Bool)) (ha : acc.length ≤ 256) => all_l1 (allL d) hl hm 1 512 (by omega) (fun a => a) (fun acc _ => by rw [show wrap64 ((1 : Int) + 1) = 2 from wrap_id (by omega) (by omega)]; exact s2 acc) _ 0 acc rfl (by omega) (by omega)
    have t0 := all_l1 (allL d) hl hm 0 256 (by omega) (fun a => a ++ (allL d).map (true :: ·)) (fun acc ha => by
      rw [show wrap64 ((0 : Int) + 1) = 1 from wrap_id (by omega) (by omega)]
      refine Evs.succ ?_
      simp only [pylonref26_all.l0, if_pos (show (1 : Int) < 2 by omega)]
      exact t1 acc ha) _ 0 [] rfl (by omega) (by simp; omega)
    refine Evs.succ ?_
    simp only [pylonref26_all.l0, if_pos (show (0 : Int) < 2 by omega)]
    exact t0
theorem same_loop (a c : List Bool) (hl : a.length ≤ 1000000) (hc : a.length = c.length) (d : Nat) : ∀ (i : Nat), a.length - i = d → i ≤ a.length → Evs (fun k => pylonref26_Same.l0 k a c (i : Int)) (decide (a.drop i = c.drop i)) := by
  induction d with
  | zero =>
    intro i hd hi
    refine Evs.succ (Evs.all fun k => ?_)
    simp only [pylonref26_Same.l0]
    rw [if_neg (by omega), List.drop_eq_nil_of_le (by omega), List.drop_eq_nil_of_le (by omega)]
    rfl
  | succ d ih =>
    intro i hd hi
    have hlt : i < a.length := by omega
    have hlc : i < c.length := by omega
    rw [List.drop_eq_getElem_cons hlt, List.drop_eq_getElem_cons hlc]
    refine Evs.succ ?_
    simp only [pylonref26_Same.l0]
    rw [rdOf_at _ _ _ hlt, rdOf_at _ _ _ hlc, wrap_id (by omega) (by omega)]
    simp only [if_pos (show (i : Int) < (a.length : Int) by omega), if_pos (show (0 : Int) ≤ (i : Int) by omega), if_pos (show (i : Int) < (c.length : Int) by omega)]
    by_cases he : a[i] = c[i]
    · have := ih (i + 1) (by omega) (by omega)
      simp only [he, bne_self_eq_false, Bool.false_eq_true, if_false, List.cons.injEq, true_and]
      exact this
    · simp only [List.cons.injEq, he, false_and, decide_false]
      simp only [if_pos (show (a[i] != c[i]) = true by simpa using he)]
      exact Evs.const rfl
theorem same_f (a c : List Bool) (hl : a.length ≤ 1000000) : Evs (fun k => pylonref26_Same.f k a c) (decide (a = c)) := by
  unfold pylonref26_Same.f
  by_cases hc : a.length = c.length
  · simp only [if_pos (show (a.length : Int) = (c.length : Int) by omega)]
    exact same_loop a c hl hc _ 0 rfl (by omega)
  · simp only [if_neg (show ¬ (a.length : Int) = (c.length : Int) by omega)]
    exact Evs.const (by rw [decide_eq_false (fun e => hc (by rw [e]))])
/-- The schedules are the feasible rows, in order. -/
theorem schedFrom_filter (up dn : Int) : ∀ (d : Nat) (pre : List Bool) (s : Int), schedFrom up dn d pre s = ((allL d).filter (feasL up dn s)).map (pre ++ ·)
  | 0, pre, s => by
    have : (allL 0).filter (feasL up dn s) = [[]] := rfl
    rw [this]
    simp [schedFrom]
  | d + 1, pre, s => by
    have key : ∀ x : Bool, (if (nxF up dn s x).2 = true then schedFrom up dn d (pre ++ [x]) (nxF up dn s x).1 else []) = (((allL d).map (x :: ·)).filter (feasL up dn s)).map (pre ++ ·) := fun x => by
      rw [List.filter_map, List.map_map]
      cases hn : (nxF up dn s x).2
      · have : (allL d).filter (feasL up dn s ∘ (x :: ·)) = [] := by
          rw [List.filter_eq_nil_iff]
          intro a _
          simp [feasL, hn]
        rw [this]
        simp
      · have : (feasL up dn s ∘ (x :: ·)) = feasL up dn (nxF up dn s x).1 := by
          funext a
          simp [feasL, hn]
        rw [this, if_pos rfl, schedFrom_filter up dn d]
        congr 1
        funext a
        simp
    rw [schedFrom, key false, key true, allL, List.filter_append, List.map_append]
end Go.Proofs.Ytelklgdmhnkenaa.U
