/- Lean functions with the answers of Go functions, and proofs that the calls come to these answers (lines by a program of this session, wip/patch_print.py, over the kit's print tool). -/
import Derived.Test.YtelklgdmhnkenaaUx0
import Derived.Test.YtelklgdmhnkenaaGivenT
import Derived.Test.YtelklgdmhnkenaaUxf16
import Derived.Test.YtelklgdmhnkenaaUxf23
import Derived.Test.YtelklgdmhnkenaaUxf22
import Derived.Test.YtelklgdmhnkenaaUxf24
import Derived.Test.YtelklgdmhnkenaaUxf25
import Derived.Test.YtelklgdmhnkenaaUxf28
import Derived.Test.YtelklgdmhnkenaaUxf21
import Derived.Test.YtelklgdmhnkenaaGivenC
namespace Go.Proofs.Ytelklgdmhnkenaa.U
open Go.RowKit Go.Proofs.YtelklgdmhnkenaaW.PrintWords Go.Proofs.YtelklgdmhnkenaaW.PrintLast Go.Proofs.YtelklgdmhnkenaaW.PrintMore
attribute [local go_sem] max2_int min2_int max_two min_two max_three min_three max_four min_four   -- for this text's walks alone
set_option linter.unusedVariables false
set_option linter.unusedSimpArgs false

/-! ### pylonlaw26_UnitConcatenation: function 8 -/
mutual
def pylonlaw26_UnitConcatenation.j0 : Nat → List Bool → List Bool → Bool → Int → Int → List (S99) → Int → Int → Int → Int → Int → Int → Option (Bool)
  | 0, _, _, _, _, _, _, _, _, _, _, _, _ => none
  | k + 1, x1, x2, x27, z0, z1, z2, z3, z4, z5, z6, z7, z8 => if x27 = true then ((pylonlaw26_awake.f).bind fun t244 => (some t244)) else ((some (([] : List Bool) : List Bool)).bind fun y245 => (if y245.length + x1.length < 140737488355328 then ((some (y245 ++ x1 : List Bool)).bind fun y248 => (if y248.length + x2.length < 140737488355328 then ((some (y248 ++ x2 : List Bool)).bind fun y251 => ((unit_Feasible.f k z0 z1 z2 z3 z4 z5 z6 z7 z8 x1).bind fun t254 => (if t254 = true then ((unit_Initial.f k z0 z1 z2 z3 z4 z5 z6 z7 z8).bind fun t256 => (pylonlaw26_UnitConcatenation.l0 k x1 x2 y251 t256 0 z0 z1 z2 z3 z4 z5 z6 z7 z8)) else ((unit_Feasible.f k z0 z1 z2 z3 z4 z5 z6 z7 z8 y251).bind fun t255 => (some (!t255)))))) else (none))) else (none)))
def pylonlaw26_UnitConcatenation.l0 : Nat → List Bool → List Bool → List Bool → Int → Int → Int → Int → List (S99) → Int → Int → Int → Int → Int → Int → Option (Bool)
  | 0, _, _, _, _, _, _, _, _, _, _, _, _, _, _ => none
  | k + 1, x1, x2, x7, x8, x9, z0, z1, z2, z3, z4, z5, z6, z7, z8 => if x9 < (x1.length : Int) then (if 0 ≤ x9 then ((unit_Next.f k z0 z1 z2 z3 z4 z5 z6 z7 z8 x8 (rdOf false x1 x9)).bind fun bt258 => (pylonlaw26_UnitConcatenation.l0 k x1 x2 x7 bt258.1 (wrap64 (x9 + 1)) z0 z1 z2 z3 z4 z5 z6 z7 z8)) else (none)) else ((pylonlaw26_may.f k z0 z1 z2 z3 z4 z5 z6 z7 x8).bind fun t261 => (if t261 = true then ((unit_Feasible.f k z0 z1 z2 z3 z4 z5 z6 z7 z8 x7).bind fun t262 => ((unit_Feasible.f k z0 z1 z2 z3 z4 z5 z6 z7 x8 x2).bind fun t263 => (if (t262 == t263) = true then ((unit_Starts.f k z0 z1 z2 z3 z4 z5 z6 z7 z8 x7).bind fun t264 => ((unit_Starts.f k z0 z1 z2 z3 z4 z5 z6 z7 z8 x1).bind fun t265 => ((unit_Starts.f k z0 z1 z2 z3 z4 z5 z6 z7 x8 x2).bind fun t266 => (if t264 = (wrap64 (t265 + t266)) then ((unit_FixedCost.f k z0 z1 z2 z3 z4 z5 z6 z7 z8 x7).bind fun t267 => ((unit_FixedCost.f k z0 z1 z2 z3 z4 z5 z6 z7 z8 x1).bind fun t268 => ((unit_FixedCost.f k z0 z1 z2 z3 z4 z5 z6 z7 x8 x2).bind fun t269 => (some (t267 == (wrap64 (t268 + t269))))))) else (some false))))) else (some false)))) else (some false)))
end
def pylonlaw26_UnitConcatenation.f (k : Nat) (q0 : Int) (q1 : Int) (l0_2 : List (S99)) (q3 : Int) (q4 : Int) (q5 : Int) (q6 : Int) (q7 : Int) (q8 : Int) (l1 : List Bool) (l2 : List Bool) : Option (Bool) := (pylonlaw26_Long.f q0 q1 l0_2 q3 q4 q5 q6 q7 q8 l1).bind fun t240 => (if t240 = true then (pylonlaw26_UnitConcatenation.j0 k l1 l2 true q0 q1 l0_2 q3 q4 q5 q6 q7 q8) else ((pylonlaw26_Long.f q0 q1 l0_2 q3 q4 q5 q6 q7 q8 l2).bind fun t241 => (if t241 = true then (pylonlaw26_UnitConcatenation.j0 k l1 l2 true q0 q1 l0_2 q3 q4 q5 q6 q7 q8) else ((pylonlaw26_may.f k q0 q1 l0_2 q3 q4 q5 q6 q7 q8).bind fun t242 => (if t242 = true then ((pylonlaw26_awake.f).bind fun t243 => (pylonlaw26_UnitConcatenation.j0 k l1 l2 (!t243) q0 q1 l0_2 q3 q4 q5 q6 q7 q8)) else (pylonlaw26_UnitConcatenation.j0 k l1 l2 true q0 q1 l0_2 q3 q4 q5 q6 q7 q8))))))
theorem pylonlaw26_UnitConcatenation.mono_l : ∀ k, (∀ y0 y1 y2 y3 y4 y5 y6 y7 y8 y9 y10 y11, LeO (pylonlaw26_UnitConcatenation.j0 k y0 y1 y2 y3 y4 y5 y6 y7 y8 y9 y10 y11) (pylonlaw26_UnitConcatenation.j0 (k + 1) y0 y1 y2 y3 y4 y5 y6 y7 y8 y9 y10 y11)) ∧ (∀ y0 y1 y2 y3 y4 y5 y6 y7 y8 y9 y10 y11 y12 y13, LeO (pylonlaw26_UnitConcatenation.l0 k y0 y1 y2 y3 y4 y5 y6 y7 y8 y9 y10 y11 y12 y13) (pylonlaw26_UnitConcatenation.l0 (k + 1) y0 y1 y2 y3 y4 y5 y6 y7 y8 y9 y10 y11 y12 y13))
  | 0 => ⟨fun _ _ _ _ _ _ _ _ _ _ _ _ r h => by simp [pylonlaw26_UnitConcatenation.j0] at h, fun _ _ _ _ _ _ _ _ _ _ _ _ _ _ r h => by simp [pylonlaw26_UnitConcatenation.l0] at h⟩
  | k + 1 => by
    obtain ⟨ih0, ih1⟩ := pylonlaw26_UnitConcatenation.mono_l k
    refine ⟨?_, ?_⟩
    · intro y0 y1 y2 y3 y4 y5 y6 y7 y8 y9 y10 y11
      unfold pylonlaw26_UnitConcatenation.j0
      repeat' first
      | (with_reducible exact ih0 _ _ _ _ _ _ _ _ _ _ _ _)
      | (with_reducible exact ih1 _ _ _ _ _ _ _ _ _ _ _ _ _ _)
      | (with_reducible exact pylonlaw26_may.mono _ _ _ _ _ _ _ _ _ _)
      | (with_reducible exact unit_Feasible.mono _ _ _ _ _ _ _ _ _ _ _)
      | (with_reducible exact unit_FixedCost.mono _ _ _ _ _ _ _ _ _ _ _)
      | (with_reducible exact unit_Initial.mono _ _ _ _ _ _ _ _ _ _)
      | (with_reducible exact unit_Next.mono _ _ _ _ _ _ _ _ _ _ _ _)
      | (with_reducible exact unit_Starts.mono _ _ _ _ _ _ _ _ _ _ _)
      | (with_reducible exact LeO.refl _)
      | (with_reducible exact LeO.none _)
      | (with_reducible refine LeO.ite ?_ ?_)
      | (with_reducible refine LeO.bind ?_ (fun _ => ?_))
      | exact ih0 _ _ _ _ _ _ _ _ _ _ _ _
      | exact ih1 _ _ _ _ _ _ _ _ _ _ _ _ _ _
      | exact pylonlaw26_may.mono _ _ _ _ _ _ _ _ _ _
      | exact unit_Feasible.mono _ _ _ _ _ _ _ _ _ _ _
      | exact unit_FixedCost.mono _ _ _ _ _ _ _ _ _ _ _
      | exact unit_Initial.mono _ _ _ _ _ _ _ _ _ _
      | exact unit_Next.mono _ _ _ _ _ _ _ _ _ _ _ _
      | exact unit_Starts.mono _ _ _ _ _ _ _ _ _ _ _
      | exact LeO.none _
      | refine LeO.ite ?_ ?_
      | refine LeO.bind ?_ (fun _ => ?_)
    · intro y0 y1 y2 y3 y4 y5 y6 y7 y8 y9 y10 y11 y12 y13
      unfold pylonlaw26_UnitConcatenation.l0
      repeat' first
      | (with_reducible exact ih0 _ _ _ _ _ _ _ _ _ _ _ _)
      | (with_reducible exact ih1 _ _ _ _ _ _ _ _ _ _ _ _ _ _)
      | (with_reducible exact pylonlaw26_may.mono _ _ _ _ _ _ _ _ _ _)
      | (with_reducible exact unit_Feasible.mono _ _ _ _ _ _ _ _ _ _ _)
      | (with_reducible exact unit_FixedCost.mono _ _ _ _ _ _ _ _ _ _ _)
      | (with_reducible exact unit_Initial.mono _ _ _ _ _ _ _ _ _ _)
      | (with_reducible exact unit_Next.mono _ _ _ _ _ _ _ _ _ _ _ _)
      | (with_reducible exact unit_Starts.mono _ _ _ _ _ _ _ _ _ _ _)
      | (with_reducible exact LeO.refl _)
      | (with_reducible exact LeO.none _)
      | (with_reducible refine LeO.ite ?_ ?_)
      | (with_reducible refine LeO.bind ?_ (fun _ => ?_))
      | exact ih0 _ _ _ _ _ _ _ _ _ _ _ _
      | exact ih1 _ _ _ _ _ _ _ _ _ _ _ _ _ _
      | exact pylonlaw26_may.mono _ _ _ _ _ _ _ _ _ _
      | exact unit_Feasible.mono _ _ _ _ _ _ _ _ _ _ _
      | exact unit_FixedCost.mono _ _ _ _ _ _ _ _ _ _ _
      | exact unit_Initial.mono _ _ _ _ _ _ _ _ _ _
      | exact unit_Next.mono _ _ _ _ _ _ _ _ _ _ _ _
      | exact unit_Starts.mono _ _ _ _ _ _ _ _ _ _ _
      | exact LeO.none _
      | refine LeO.ite ?_ ?_
      | refine LeO.bind ?_ (fun _ => ?_)
theorem pylonlaw26_UnitConcatenation.mono : ∀ a0 a1 a2 a3 a4 a5 a6 a7 a8 a9 a10 k, LeO (pylonlaw26_UnitConcatenation.f k a0 a1 a2 a3 a4 a5 a6 a7 a8 a9 a10) (pylonlaw26_UnitConcatenation.f (k + 1) a0 a1 a2 a3 a4 a5 a6 a7 a8 a9 a10) := by
  intro a0 a1 a2 a3 a4 a5 a6 a7 a8 a9 a10 k
  obtain ⟨ih0, ih1⟩ := pylonlaw26_UnitConcatenation.mono_l k
  unfold pylonlaw26_UnitConcatenation.f
  repeat' first
      | (with_reducible exact ih0 _ _ _ _ _ _ _ _ _ _ _ _)
      | (with_reducible exact ih1 _ _ _ _ _ _ _ _ _ _ _ _ _ _)
      | (with_reducible exact pylonlaw26_may.mono _ _ _ _ _ _ _ _ _ _)
      | (with_reducible exact unit_Feasible.mono _ _ _ _ _ _ _ _ _ _ _)
      | (with_reducible exact unit_FixedCost.mono _ _ _ _ _ _ _ _ _ _ _)
      | (with_reducible exact unit_Initial.mono _ _ _ _ _ _ _ _ _ _)
      | (with_reducible exact unit_Next.mono _ _ _ _ _ _ _ _ _ _ _ _)
      | (with_reducible exact unit_Starts.mono _ _ _ _ _ _ _ _ _ _ _)
      | (with_reducible exact LeO.refl _)
      | (with_reducible exact LeO.none _)
      | (with_reducible refine LeO.ite ?_ ?_)
      | (with_reducible refine LeO.bind ?_ (fun _ => ?_))
      | exact ih0 _ _ _ _ _ _ _ _ _ _ _ _
      | exact ih1 _ _ _ _ _ _ _ _ _ _ _ _ _ _
      | exact pylonlaw26_may.mono _ _ _ _ _ _ _ _ _ _
      | exact unit_Feasible.mono _ _ _ _ _ _ _ _ _ _ _
      | exact unit_FixedCost.mono _ _ _ _ _ _ _ _ _ _ _
      | exact unit_Initial.mono _ _ _ _ _ _ _ _ _ _
      | exact unit_Next.mono _ _ _ _ _ _ _ _ _ _ _ _
      | exact unit_Starts.mono _ _ _ _ _ _ _ _ _ _ _
      | exact LeO.none _
      | refine LeO.ite ?_ ?_
      | refine LeO.bind ?_ (fun _ => ?_)
def pylonlaw26_UnitConcatenation.T10 : Bool × List (List Nat × List Nat) := (true, [([], []), ([], []), ([], []), ([], []), ([2, 3], [2, 3]), ([4], [4]), ([0, 1, 5], [0, 1, 5]), ([6], [6]), ([7], [7]), ([7], [7]), ([8, 6, 0, 1, 2, 3, 4, 5, 6, 7, 8], [1, 8])])
def pylonlaw26_UnitConcatenation.B10 : List Nat := [0, 0, 0, 0, 12, 28, 63, 127, 255, 255, 511]
theorem pylonlaw26_UnitConcatenation.tab10 : rtab .any (opsOf Try.f8 10) = pylonlaw26_UnitConcatenation.T10 := by kernel_rfl
theorem pylonlaw26_UnitConcatenation.bits10 : waitsOk pylonlaw26_UnitConcatenation.T10.2 pylonlaw26_UnitConcatenation.B10 = true := by kernel_rfl
def pylonlaw26_UnitConcatenation.T13 : Bool × List (List Nat × List Nat) := (true, [([], []), ([0], [0]), ([1, 1], [1]), ([2], [2]), ([2], [2]), ([3, 4, 2, 2], [2, 3, 4]), ([2], [2]), ([2], [2]), ([6, 7, 5, 2], [2, 6, 7]), ([5, 8, 2], [2, 5, 8]), ([2, 9], [2, 9]), ([10, 8], [10]), ([11], [11]), ([11], [11]), ([12, 13, 11, 11], [11, 12, 13]), ([11], [11]), ([11], [11]), ([15, 16, 14, 11], [11, 15, 16]), ([11], [11]), ([11], [11]), ([18, 19, 17, 11], [11, 18, 19]), ([17, 20, 11], [11, 17, 20]), ([14, 21, 11], [11, 14, 21]), ([11, 22], [11, 22]), ([23, 20], [23]), ([24], [24]), ([24], [24]), ([25, 26, 24, 24], [24, 25, 26]), ([24], [24]), ([24], [24]), ([28, 29, 27, 24], [24, 28, 29]), ([24], [24]), ([24], [24]), ([31, 32, 30, 24], [24, 31, 32]), ([30, 33, 24], [24, 30, 33]), ([27, 34, 24], [24, 27, 34]), ([24, 35], [24, 35]), ([36, 33, 0, 1, 2, 3, 4, 5, 6, 7, 8, 9, 10, 11, 12, 13, 14, 15, 16, 17, 18, 19, 20, 21, 22, 23, 24, 25, 26, 27, 28, 29, 30, 31, 32, 33, 34, 35, 36], [36])])
def pylonlaw26_UnitConcatenation.B13 : List Nat := [0, 1, 3, 7, 7, 31, 7, 7, 255, 511, 1023, 2047, 4095, 4095, 16383, 4095, 4095, 131071, 4095, 4095, 1048575, 2097151, 4194303, 8388607, 16777215, 33554431, 33554431, 134217727, 33554431, 33554431, 1073741823, 33554431, 33554431, 8589934591, 17179869183, 34359738367, 68719476735, 137438953471]
theorem pylonlaw26_UnitConcatenation.tab13 : rtab .any (opsOf Try.f8 13) = pylonlaw26_UnitConcatenation.T13 := by kernel_rfl
theorem pylonlaw26_UnitConcatenation.bits13 : waitsOk pylonlaw26_UnitConcatenation.T13.2 pylonlaw26_UnitConcatenation.B13 = true := by kernel_rfl
set_option maxHeartbeats 8000000 in
set_option maxRecDepth 100000 in
theorem pylonlaw26_UnitConcatenation.calls (k : Nat) (q0 : Int) (q1 : Int) (A0_2 : Option Addr) (c0_2 : Nat) (l0_2 : List (S99)) (q3 : Int) (q4 : Int) (q5 : Int) (q6 : Int) (q7 : Int) (q8 : Int) (A1 : Option Addr) (c1 : Nat) (l1 : List Bool) (A2 : Option Addr) (c2 : Nat) (l2 : List Bool) (r : Bool) (w : World) (hr0_2 : Kd.C k99 w A0_2 l0_2.length l0_2) (hc0_2 : l0_2.length ≤ c0_2) (hr1 : Kd.C Kd.bool w A1 l1.length l1) (hc1 : l1.length ≤ c1) (hr2 : Kd.C Kd.bool w A2 l2.length l2) (hc2 : l2.length ≤ c2) (h : pylonlaw26_UnitConcatenation.f k q0 q1 l0_2 q3 q4 q5 q6 q7 q8 l1 l2 = some r) :
    Calls Try.prog 8 #[.agg #[.int .i64 q0, .int .i64 q1, .slice A0_2 l0_2.length c0_2, .int .i64 q3, .int .i64 q4, .int .i64 q5, .int .i64 q6, .int .i64 q7, .int .i64 q8], .slice A1 l1.length c1, .slice A2 l2.length c2] w fun e w' => e = .returned (.bool r) ∧ Below w.heap.size w w' := by
  have hu24 := Try.underlying24
  have HR0_2 := Aside0.mk hr0_2
  have HC0_2 := Aside0.mk hc0_2
  clear hr0_2 hc0_2
  have HR1 := Aside0.mk hr1
  have HC1 := Aside0.mk hc1
  clear hr1 hc1
  have HR2 := Aside0.mk hr2
  have HC2 := Aside0.mk hc2
  clear hr2 hc2
  have HB := Aside0.mk (Below.refl w.heap.size w)
  have H : ((pylonlaw26_Long.f q0 q1 l0_2 q3 q4 q5 q6 q7 q8 l1).bind fun t240 => (if t240 = true then (pylonlaw26_UnitConcatenation.j0 k l1 l2 true q0 q1 l0_2 q3 q4 q5 q6 q7 q8) else ((pylonlaw26_Long.f q0 q1 l0_2 q3 q4 q5 q6 q7 q8 l2).bind fun t241 => (if t241 = true then (pylonlaw26_UnitConcatenation.j0 k l1 l2 true q0 q1 l0_2 q3 q4 q5 q6 q7 q8) else ((pylonlaw26_may.f k q0 q1 l0_2 q3 q4 q5 q6 q7 q8).bind fun t242 => (if t242 = true then ((pylonlaw26_awake.f).bind fun t243 => (pylonlaw26_UnitConcatenation.j0 k l1 l2 (!t243) q0 q1 l0_2 q3 q4 q5 q6 q7 q8)) else (pylonlaw26_UnitConcatenation.j0 k l1 l2 true q0 q1 l0_2 q3 q4 q5 q6 q7 q8))))))) = some r := h
  clear h
  have HC4 := Aside0.mk H
  clear H
  go_enter Try.func8, Try.ntmps8
  go_upto_region 1 with (first | ((with_reducible refine gate_dst (N := 3) rfl ?_); refine box_event ?hg (N := 3) ?hd (cs := #[.int .i64 q0, .int .i64 q1, .slice A0_2 l0_2.length c0_2, .int .i64 q3, .int .i64 q4, .int .i64 q5, .int .i64 q6, .int .i64 q7, .int .i64 q8]) (t := 24) ?hr ?_; (case hd => rfl); (case hg => rfl); (case hr => first | (go_simp; done) | (go_simp; rfl)); intro g239 hg w5 hbox hb; have n0_ := Aside0.mk (below_step (by repeat (first | (with_reducible first | exact HB.out | apply below_alloc | apply pw_below_drewN | apply below_drew1) | exact HB.out)) hb); have n1_ := Aside0.mk (hbox); have n2_ := Aside0.mk ((by rw [hg]; exact (below_size (by repeat (first | (with_reducible first | exact HB.out | apply below_alloc | apply pw_below_drewN | apply below_drew1) | exact HB.out))) : w.heap.size ≤ g239)); have n3_ := Aside0.mk ((by rw [hg]; exact (below_size (by repeat (first | (with_reducible first | exact HB.out | apply below_alloc | apply pw_below_drewN | apply below_drew1) | exact HB.out))) : w.heap.size ≤ g239)); clear HB; have HB := n0_; have BK239 := n1_; have GW239 := n2_; have GE239 := n3_; clear n0_ n1_ n2_ n3_; clear hb hbox hg))
  (try simp only [Act.put, List.setIfInBounds_toArray, List.set_cons_zero, List.set_cons_succ])
  go_cut [27] (fun v27 wc => ∃ (kq : Nat) (x27_3 : Bool), v27 = .bool x27_3 ∧ Aside0 (pylonlaw26_UnitConcatenation.j0 kq l1 l2 x27_3 q0 q1 l0_2 q3 q4 q5 q6 q7 q8 = some r) ∧ Aside0 (kq ≤ k) ∧ Aside0 (wc.heap[g239]? = some (.cells #[.int .i64 q0, .int .i64 q1, (.slice A0_2 l0_2.length c0_2), .int .i64 q3, .int .i64 q4, .int .i64 q5, .int .i64 q6, .int .i64 q7, .int .i64 q8] 24 (0, 0))) ∧ Aside0 (Below w.heap.size w wc))
  case first =>
    have H := HC4.out
    clear HC4
    replace H := Option.bind_eq_some_iff.mp H
    obtain ⟨t240, A60, H⟩ := H
    replace H : (if t240 = true then (pylonlaw26_UnitConcatenation.j0 k l1 l2 true q0 q1 l0_2 q3 q4 q5 q6 q7 q8) else ((pylonlaw26_Long.f q0 q1 l0_2 q3 q4 q5 q6 q7 q8 l2).bind fun t241 => (if t241 = true then (pylonlaw26_UnitConcatenation.j0 k l1 l2 true q0 q1 l0_2 q3 q4 q5 q6 q7 q8) else ((pylonlaw26_may.f k q0 q1 l0_2 q3 q4 q5 q6 q7 q8).bind fun t242 => (if t242 = true then ((pylonlaw26_awake.f).bind fun t243 => (pylonlaw26_UnitConcatenation.j0 k l1 l2 (!t243) q0 q1 l0_2 q3 q4 q5 q6 q7 q8)) else (pylonlaw26_UnitConcatenation.j0 k l1 l2 true q0 q1 l0_2 q3 q4 q5 q6 q7 q8)))))) = some r := H
    have A6 := Aside0.mk A60
    clear A60
    by_cases c7 : t240 = true
    · subst c7
      have H1 : (pylonlaw26_UnitConcatenation.j0 k l1 l2 true q0 q1 l0_2 q3 q4 q5 q6 q7 q8) = some r := by rw [if_pos rfl] at H; exact H
      clear H
      have H := H1
      clear H1
      have H' := Aside0.mk H
      clear H
      have hcz8_0 : w5.cell? ⟨g239, 0, none⟩ = some (.int .i64 q0) := (blk_cell BK239.out 0).trans rfl
      have hcz8_1 : w5.cell? ⟨g239, 1, none⟩ = some (.int .i64 q1) := (blk_cell BK239.out 1).trans rfl
      have hcz8_2 : w5.cell? ⟨g239, 2, none⟩ = some (.slice A0_2 l0_2.length c0_2) := (blk_cell BK239.out 2).trans rfl
      have hcz8_3 : w5.cell? ⟨g239, 3, none⟩ = some (.int .i64 q3) := (blk_cell BK239.out 3).trans rfl
      have hcz8_4 : w5.cell? ⟨g239, 4, none⟩ = some (.int .i64 q4) := (blk_cell BK239.out 4).trans rfl
      have hcz8_5 : w5.cell? ⟨g239, 5, none⟩ = some (.int .i64 q5) := (blk_cell BK239.out 5).trans rfl
      have hcz8_6 : w5.cell? ⟨g239, 6, none⟩ = some (.int .i64 q6) := (blk_cell BK239.out 6).trans rfl
      have hcz8_7 : w5.cell? ⟨g239, 7, none⟩ = some (.int .i64 q7) := (blk_cell BK239.out 7).trans rfl
      have hcz8_8 : w5.cell? ⟨g239, 8, none⟩ = some (.int .i64 q8) := (blk_cell BK239.out 8).trans rfl
      have hfz8_0 := blk_frozen BK239.out 0
      have hfz8_1 := blk_frozen BK239.out 1
      have hfz8_2 := blk_frozen BK239.out 2
      have hfz8_3 := blk_frozen BK239.out 3
      have hfz8_4 := blk_frozen BK239.out 4
      have hfz8_5 := blk_frozen BK239.out 5
      have hfz8_6 := blk_frozen BK239.out 6
      have hfz8_7 := blk_frozen BK239.out 7
      have hfz8_8 := blk_frozen BK239.out 8
      go_wp2_with (first | ((with_reducible refine gate_callee (f := 16) rfl ?_); refine goesL_ (some 13) rfl rfl Try.func16 (by kernel_rfl) rfl #[.agg #[.int .i64 q0, .int .i64 q1, .slice A0_2 l0_2.length c0_2, .int .i64 q3, .int .i64 q4, .int .i64 q5, .int .i64 q6, .int .i64 q7, .int .i64 q8], .slice A1 l1.length c1] rfl (by (try simp only [List.map_toArray, List.map_cons, List.map_nil]); first | done | rfl | (simp only [List.length_drop, List.length_take]; rfl)) ?_; (with_reducible refine (pylonlaw26_Long.calls q0 q1 _ _ l0_2 q3 q4 q5 q6 q7 q8 _ _ l1 true _ ?side1 ?side2 ?side3 ?side4 A6.out).mono ?_); (case side1 => repeat (first | exact (Kd.C_below HR0_2.out HB.out) | (with_reducible refine Kd.C_alloc ?_ _) | (with_reducible refine Kd.C_drewN ?_ _) | (with_reducible refine Kd.C_drew ?_))); (case side2 => exact HC0_2.out); (case side3 => repeat (first | exact (Kd.C_below HR1.out HB.out) | (with_reducible refine Kd.C_alloc ?_ _) | (with_reducible refine Kd.C_drewN ?_ _) | (with_reducible refine Kd.C_drew ?_))); (case side4 => exact HC1.out); rintro e w9 ⟨rfl, hb⟩; refine ⟨_, rfl, ?_⟩; have n0_ := Aside0.mk (blk_below (g := g239) (o := .cells #[.int .i64 q0, .int .i64 q1, .slice A0_2 l0_2.length c0_2, .int .i64 q3, .int .i64 q4, .int .i64 q5, .int .i64 q6, .int .i64 q7, .int .i64 q8] 24 (0, 0)) (by (with_reducible repeat (first | refine blk_drewN ?_ _ | refine blk_drew ?_ | refine blk_alloc ?_ _)); exact BK239.out) hb); have n1_ := Aside0.mk (below_step (by repeat (first | (with_reducible first | exact HB.out | apply below_alloc | apply pw_below_drewN | apply below_drew1 | refine below_set ?_ GE239.out) | exact HB.out)) hb); clear BK239; clear HB; have BK239 := n0_; have HB := n1_; clear n0_ n1_; (try clear hb); (try clear hb2); (try clear hk); (try clear hi)))
      go_meet
      case rel => exact ⟨_, (true), (by first | rfl | (simp; done) | (simp [*]; done)), H', ⟨by first | omega | exact Nat.le_refl _⟩, ⟨by (with_reducible repeat (first | refine blk_drewN ?_ _ | refine blk_drew ?_ | refine blk_alloc ?_ _)); exact BK239.out⟩, ⟨by repeat (first | (with_reducible first | exact HB.out | apply below_alloc | apply pw_below_drewN | apply below_drew1 | refine below_set ?_ GE239.out) | exact HB.out)⟩⟩
    · replace c7 := Bool.eq_false_iff.mpr c7
      subst c7
      have H1 : ((pylonlaw26_Long.f q0 q1 l0_2 q3 q4 q5 q6 q7 q8 l2).bind fun t241 => (if t241 = true then (pylonlaw26_UnitConcatenation.j0 k l1 l2 true q0 q1 l0_2 q3 q4 q5 q6 q7 q8) else ((pylonlaw26_may.f k q0 q1 l0_2 q3 q4 q5 q6 q7 q8).bind fun t242 => (if t242 = true then ((pylonlaw26_awake.f).bind fun t243 => (pylonlaw26_UnitConcatenation.j0 k l1 l2 (!t243) q0 q1 l0_2 q3 q4 q5 q6 q7 q8)) else (pylonlaw26_UnitConcatenation.j0 k l1 l2 true q0 q1 l0_2 q3 q4 q5 q6 q7 q8))))) = some r := by rw [if_neg (show ¬ (false = true) by decide)] at H; exact H
      clear H
      have H := H1
      clear H1
      replace H := Option.bind_eq_some_iff.mp H
      obtain ⟨t241, A100, H⟩ := H
      replace H : (if t241 = true then (pylonlaw26_UnitConcatenation.j0 k l1 l2 true q0 q1 l0_2 q3 q4 q5 q6 q7 q8) else ((pylonlaw26_may.f k q0 q1 l0_2 q3 q4 q5 q6 q7 q8).bind fun t242 => (if t242 = true then ((pylonlaw26_awake.f).bind fun t243 => (pylonlaw26_UnitConcatenation.j0 k l1 l2 (!t243) q0 q1 l0_2 q3 q4 q5 q6 q7 q8)) else (pylonlaw26_UnitConcatenation.j0 k l1 l2 true q0 q1 l0_2 q3 q4 q5 q6 q7 q8)))) = some r := H
      have A10 := Aside0.mk A100
      clear A100
      by_cases c11 : t241 = true
      · subst c11
        have H1 : (pylonlaw26_UnitConcatenation.j0 k l1 l2 true q0 q1 l0_2 q3 q4 q5 q6 q7 q8) = some r := by rw [if_pos rfl] at H; exact H
        clear H
        have H := H1
        clear H1
        have H' := Aside0.mk H
        clear H
        have hcz12_0 : w5.cell? ⟨g239, 0, none⟩ = some (.int .i64 q0) := (blk_cell BK239.out 0).trans rfl
        have hcz12_1 : w5.cell? ⟨g239, 1, none⟩ = some (.int .i64 q1) := (blk_cell BK239.out 1).trans rfl
        have hcz12_2 : w5.cell? ⟨g239, 2, none⟩ = some (.slice A0_2 l0_2.length c0_2) := (blk_cell BK239.out 2).trans rfl
        have hcz12_3 : w5.cell? ⟨g239, 3, none⟩ = some (.int .i64 q3) := (blk_cell BK239.out 3).trans rfl
        have hcz12_4 : w5.cell? ⟨g239, 4, none⟩ = some (.int .i64 q4) := (blk_cell BK239.out 4).trans rfl
        have hcz12_5 : w5.cell? ⟨g239, 5, none⟩ = some (.int .i64 q5) := (blk_cell BK239.out 5).trans rfl
        have hcz12_6 : w5.cell? ⟨g239, 6, none⟩ = some (.int .i64 q6) := (blk_cell BK239.out 6).trans rfl
        have hcz12_7 : w5.cell? ⟨g239, 7, none⟩ = some (.int .i64 q7) := (blk_cell BK239.out 7).trans rfl
        have hcz12_8 : w5.cell? ⟨g239, 8, none⟩ = some (.int .i64 q8) := (blk_cell BK239.out 8).trans rfl
        have hfz12_0 := blk_frozen BK239.out 0
        have hfz12_1 := blk_frozen BK239.out 1
        have hfz12_2 := blk_frozen BK239.out 2
        have hfz12_3 := blk_frozen BK239.out 3
        have hfz12_4 := blk_frozen BK239.out 4
        have hfz12_5 := blk_frozen BK239.out 5
        have hfz12_6 := blk_frozen BK239.out 6
        have hfz12_7 := blk_frozen BK239.out 7
        have hfz12_8 := blk_frozen BK239.out 8
        go_wp2_with (first | ((with_reducible refine gate_callee (f := 16) rfl ?_); refine goesL_ (some 13) rfl rfl Try.func16 (by kernel_rfl) rfl #[.agg #[.int .i64 q0, .int .i64 q1, .slice A0_2 l0_2.length c0_2, .int .i64 q3, .int .i64 q4, .int .i64 q5, .int .i64 q6, .int .i64 q7, .int .i64 q8], .slice A1 l1.length c1] rfl (by (try simp only [List.map_toArray, List.map_cons, List.map_nil]); first | done | rfl | (simp only [List.length_drop, List.length_take]; rfl)) ?_; (with_reducible refine (pylonlaw26_Long.calls q0 q1 _ _ l0_2 q3 q4 q5 q6 q7 q8 _ _ l1 false _ ?side1 ?side2 ?side3 ?side4 A6.out).mono ?_); (case side1 => repeat (first | exact (Kd.C_below HR0_2.out HB.out) | (with_reducible refine Kd.C_alloc ?_ _) | (with_reducible refine Kd.C_drewN ?_ _) | (with_reducible refine Kd.C_drew ?_))); (case side2 => exact HC0_2.out); (case side3 => repeat (first | exact (Kd.C_below HR1.out HB.out) | (with_reducible refine Kd.C_alloc ?_ _) | (with_reducible refine Kd.C_drewN ?_ _) | (with_reducible refine Kd.C_drew ?_))); (case side4 => exact HC1.out); rintro e w13 ⟨rfl, hb⟩; refine ⟨_, rfl, ?_⟩; have n0_ := Aside0.mk (blk_below (g := g239) (o := .cells #[.int .i64 q0, .int .i64 q1, .slice A0_2 l0_2.length c0_2, .int .i64 q3, .int .i64 q4, .int .i64 q5, .int .i64 q6, .int .i64 q7, .int .i64 q8] 24 (0, 0)) (by (with_reducible repeat (first | refine blk_drewN ?_ _ | refine blk_drew ?_ | refine blk_alloc ?_ _)); exact BK239.out) hb); have n1_ := Aside0.mk (below_step (by repeat (first | (with_reducible first | exact HB.out | apply below_alloc | apply pw_below_drewN | apply below_drew1 | refine below_set ?_ GE239.out) | exact HB.out)) hb); clear BK239; clear HB; have BK239 := n0_; have HB := n1_; clear n0_ n1_; (try clear hb); (try clear hb2); (try clear hk); (try clear hi); have hcz14_0 : w13.cell? ⟨g239, 0, none⟩ = some (.int .i64 q0) := (blk_cell BK239.out 0).trans rfl; have hcz14_1 : w13.cell? ⟨g239, 1, none⟩ = some (.int .i64 q1) := (blk_cell BK239.out 1).trans rfl; have hcz14_2 : w13.cell? ⟨g239, 2, none⟩ = some (.slice A0_2 l0_2.length c0_2) := (blk_cell BK239.out 2).trans rfl; have hcz14_3 : w13.cell? ⟨g239, 3, none⟩ = some (.int .i64 q3) := (blk_cell BK239.out 3).trans rfl; have hcz14_4 : w13.cell? ⟨g239, 4, none⟩ = some (.int .i64 q4) := (blk_cell BK239.out 4).trans rfl; have hcz14_5 : w13.cell? ⟨g239, 5, none⟩ = some (.int .i64 q5) := (blk_cell BK239.out 5).trans rfl; have hcz14_6 : w13.cell? ⟨g239, 6, none⟩ = some (.int .i64 q6) := (blk_cell BK239.out 6).trans rfl; have hcz14_7 : w13.cell? ⟨g239, 7, none⟩ = some (.int .i64 q7) := (blk_cell BK239.out 7).trans rfl; have hcz14_8 : w13.cell? ⟨g239, 8, none⟩ = some (.int .i64 q8) := (blk_cell BK239.out 8).trans rfl; have hfz14_0 := blk_frozen BK239.out 0; have hfz14_1 := blk_frozen BK239.out 1; have hfz14_2 := blk_frozen BK239.out 2; have hfz14_3 := blk_frozen BK239.out 3; have hfz14_4 := blk_frozen BK239.out 4; have hfz14_5 := blk_frozen BK239.out 5; have hfz14_6 := blk_frozen BK239.out 6; have hfz14_7 := blk_frozen BK239.out 7; have hfz14_8 := blk_frozen BK239.out 8) | (go_at_call 16; (with_reducible refine (pylonlaw26_Long.calls q0 q1 _ _ l0_2 q3 q4 q5 q6 q7 q8 _ _ l2 true _ ?side1 ?side2 ?side3 ?side4 A10.out).mono ?_); (case side1 => repeat (first | exact (Kd.C_below HR0_2.out HB.out) | (with_reducible refine Kd.C_alloc ?_ _) | (with_reducible refine Kd.C_drewN ?_ _) | (with_reducible refine Kd.C_drew ?_))); (case side2 => exact HC0_2.out); (case side3 => repeat (first | exact (Kd.C_below HR2.out HB.out) | (with_reducible refine Kd.C_alloc ?_ _) | (with_reducible refine Kd.C_drewN ?_ _) | (with_reducible refine Kd.C_drew ?_))); (case side4 => exact HC2.out); rintro e w15 ⟨rfl, hb⟩; have n0_ := Aside0.mk (blk_below (g := g239) (o := .cells #[.int .i64 q0, .int .i64 q1, .slice A0_2 l0_2.length c0_2, .int .i64 q3, .int .i64 q4, .int .i64 q5, .int .i64 q6, .int .i64 q7, .int .i64 q8] 24 (0, 0)) (by (with_reducible repeat (first | refine blk_drewN ?_ _ | refine blk_drew ?_ | refine blk_alloc ?_ _)); exact BK239.out) hb); have n1_ := Aside0.mk (below_step (by repeat (first | (with_reducible first | exact HB.out | apply below_alloc | apply pw_below_drewN | apply below_drew1 | refine below_set ?_ GE239.out) | exact HB.out)) hb); clear BK239; clear HB; have BK239 := n0_; have HB := n1_; clear n0_ n1_; (try clear hb); (try clear hb2); (try clear hk); (try clear hi)))
        go_meet
        case rel => exact ⟨_, (true), (by first | rfl | (simp; done) | (simp [*]; done)), H', ⟨by first | omega | exact Nat.le_refl _⟩, ⟨by (with_reducible repeat (first | refine blk_drewN ?_ _ | refine blk_drew ?_ | refine blk_alloc ?_ _)); exact BK239.out⟩, ⟨by repeat (first | (with_reducible first | exact HB.out | apply below_alloc | apply pw_below_drewN | apply below_drew1 | refine below_set ?_ GE239.out) | exact HB.out)⟩⟩
      · replace c11 := Bool.eq_false_iff.mpr c11
        subst c11
        have H1 : ((pylonlaw26_may.f k q0 q1 l0_2 q3 q4 q5 q6 q7 q8).bind fun t242 => (if t242 = true then ((pylonlaw26_awake.f).bind fun t243 => (pylonlaw26_UnitConcatenation.j0 k l1 l2 (!t243) q0 q1 l0_2 q3 q4 q5 q6 q7 q8)) else (pylonlaw26_UnitConcatenation.j0 k l1 l2 true q0 q1 l0_2 q3 q4 q5 q6 q7 q8))) = some r := by rw [if_neg (show ¬ (false = true) by decide)] at H; exact H
        clear H
        have H := H1
        clear H1
        replace H := Option.bind_eq_some_iff.mp H
        obtain ⟨t242, A160, H⟩ := H
        replace H : (if t242 = true then ((pylonlaw26_awake.f).bind fun t243 => (pylonlaw26_UnitConcatenation.j0 k l1 l2 (!t243) q0 q1 l0_2 q3 q4 q5 q6 q7 q8)) else (pylonlaw26_UnitConcatenation.j0 k l1 l2 true q0 q1 l0_2 q3 q4 q5 q6 q7 q8)) = some r := H
        have A16 := Aside0.mk A160
        clear A160
        by_cases c17 : t242 = true
        · subst c17
          have H1 : ((pylonlaw26_awake.f).bind fun t243 => (pylonlaw26_UnitConcatenation.j0 k l1 l2 (!t243) q0 q1 l0_2 q3 q4 q5 q6 q7 q8)) = some r := by rw [if_pos rfl] at H; exact H
          clear H
          have H := H1
          clear H1
          replace H := Option.bind_eq_some_iff.mp H
          obtain ⟨t243, A180, H⟩ := H
          replace H : (pylonlaw26_UnitConcatenation.j0 k l1 l2 (!t243) q0 q1 l0_2 q3 q4 q5 q6 q7 q8) = some r := H
          have A18 := Aside0.mk A180
          clear A180
          have H' := Aside0.mk H
          clear H
          have hcz19_0 : w5.cell? ⟨g239, 0, none⟩ = some (.int .i64 q0) := (blk_cell BK239.out 0).trans rfl
          have hcz19_1 : w5.cell? ⟨g239, 1, none⟩ = some (.int .i64 q1) := (blk_cell BK239.out 1).trans rfl
          have hcz19_2 : w5.cell? ⟨g239, 2, none⟩ = some (.slice A0_2 l0_2.length c0_2) := (blk_cell BK239.out 2).trans rfl
          have hcz19_3 : w5.cell? ⟨g239, 3, none⟩ = some (.int .i64 q3) := (blk_cell BK239.out 3).trans rfl
          have hcz19_4 : w5.cell? ⟨g239, 4, none⟩ = some (.int .i64 q4) := (blk_cell BK239.out 4).trans rfl
          have hcz19_5 : w5.cell? ⟨g239, 5, none⟩ = some (.int .i64 q5) := (blk_cell BK239.out 5).trans rfl
          have hcz19_6 : w5.cell? ⟨g239, 6, none⟩ = some (.int .i64 q6) := (blk_cell BK239.out 6).trans rfl
          have hcz19_7 : w5.cell? ⟨g239, 7, none⟩ = some (.int .i64 q7) := (blk_cell BK239.out 7).trans rfl
          have hcz19_8 : w5.cell? ⟨g239, 8, none⟩ = some (.int .i64 q8) := (blk_cell BK239.out 8).trans rfl
          have hfz19_0 := blk_frozen BK239.out 0
          have hfz19_1 := blk_frozen BK239.out 1
          have hfz19_2 := blk_frozen BK239.out 2
          have hfz19_3 := blk_frozen BK239.out 3
          have hfz19_4 := blk_frozen BK239.out 4
          have hfz19_5 := blk_frozen BK239.out 5
          have hfz19_6 := blk_frozen BK239.out 6
          have hfz19_7 := blk_frozen BK239.out 7
          have hfz19_8 := blk_frozen BK239.out 8
          go_wp2_with (first | ((with_reducible refine gate_callee (f := 16) rfl ?_); refine goesL_ (some 13) rfl rfl Try.func16 (by kernel_rfl) rfl #[.agg #[.int .i64 q0, .int .i64 q1, .slice A0_2 l0_2.length c0_2, .int .i64 q3, .int .i64 q4, .int .i64 q5, .int .i64 q6, .int .i64 q7, .int .i64 q8], .slice A1 l1.length c1] rfl (by (try simp only [List.map_toArray, List.map_cons, List.map_nil]); first | done | rfl | (simp only [List.length_drop, List.length_take]; rfl)) ?_; (with_reducible refine (pylonlaw26_Long.calls q0 q1 _ _ l0_2 q3 q4 q5 q6 q7 q8 _ _ l1 false _ ?side1 ?side2 ?side3 ?side4 A6.out).mono ?_); (case side1 => repeat (first | exact (Kd.C_below HR0_2.out HB.out) | (with_reducible refine Kd.C_alloc ?_ _) | (with_reducible refine Kd.C_drewN ?_ _) | (with_reducible refine Kd.C_drew ?_))); (case side2 => exact HC0_2.out); (case side3 => repeat (first | exact (Kd.C_below HR1.out HB.out) | (with_reducible refine Kd.C_alloc ?_ _) | (with_reducible refine Kd.C_drewN ?_ _) | (with_reducible refine Kd.C_drew ?_))); (case side4 => exact HC1.out); rintro e w20 ⟨rfl, hb⟩; refine ⟨_, rfl, ?_⟩; have n0_ := Aside0.mk (blk_below (g := g239) (o := .cells #[.int .i64 q0, .int .i64 q1, .slice A0_2 l0_2.length c0_2, .int .i64 q3, .int .i64 q4, .int .i64 q5, .int .i64 q6, .int .i64 q7, .int .i64 q8] 24 (0, 0)) (by (with_reducible repeat (first | refine blk_drewN ?_ _ | refine blk_drew ?_ | refine blk_alloc ?_ _)); exact BK239.out) hb); have n1_ := Aside0.mk (below_step (by repeat (first | (with_reducible first | exact HB.out | apply below_alloc | apply pw_below_drewN | apply below_drew1 | refine below_set ?_ GE239.out) | exact HB.out)) hb); clear BK239; clear HB; have BK239 := n0_; have HB := n1_; clear n0_ n1_; (try clear hb); (try clear hb2); (try clear hk); (try clear hi); have hcz21_0 : w20.cell? ⟨g239, 0, none⟩ = some (.int .i64 q0) := (blk_cell BK239.out 0).trans rfl; have hcz21_1 : w20.cell? ⟨g239, 1, none⟩ = some (.int .i64 q1) := (blk_cell BK239.out 1).trans rfl; have hcz21_2 : w20.cell? ⟨g239, 2, none⟩ = some (.slice A0_2 l0_2.length c0_2) := (blk_cell BK239.out 2).trans rfl; have hcz21_3 : w20.cell? ⟨g239, 3, none⟩ = some (.int .i64 q3) := (blk_cell BK239.out 3).trans rfl; have hcz21_4 : w20.cell? ⟨g239, 4, none⟩ = some (.int .i64 q4) := (blk_cell BK239.out 4).trans rfl; have hcz21_5 : w20.cell? ⟨g239, 5, none⟩ = some (.int .i64 q5) := (blk_cell BK239.out 5).trans rfl; have hcz21_6 : w20.cell? ⟨g239, 6, none⟩ = some (.int .i64 q6) := (blk_cell BK239.out 6).trans rfl; have hcz21_7 : w20.cell? ⟨g239, 7, none⟩ = some (.int .i64 q7) := (blk_cell BK239.out 7).trans rfl; have hcz21_8 : w20.cell? ⟨g239, 8, none⟩ = some (.int .i64 q8) := (blk_cell BK239.out 8).trans rfl; have hfz21_0 := blk_frozen BK239.out 0; have hfz21_1 := blk_frozen BK239.out 1; have hfz21_2 := blk_frozen BK239.out 2; have hfz21_3 := blk_frozen BK239.out 3; have hfz21_4 := blk_frozen BK239.out 4; have hfz21_5 := blk_frozen BK239.out 5; have hfz21_6 := blk_frozen BK239.out 6; have hfz21_7 := blk_frozen BK239.out 7; have hfz21_8 := blk_frozen BK239.out 8) | (go_at_call 16; (with_reducible refine (pylonlaw26_Long.calls q0 q1 _ _ l0_2 q3 q4 q5 q6 q7 q8 _ _ l2 false _ ?side1 ?side2 ?side3 ?side4 A10.out).mono ?_); (case side1 => repeat (first | exact (Kd.C_below HR0_2.out HB.out) | (with_reducible refine Kd.C_alloc ?_ _) | (with_reducible refine Kd.C_drewN ?_ _) | (with_reducible refine Kd.C_drew ?_))); (case side2 => exact HC0_2.out); (case side3 => repeat (first | exact (Kd.C_below HR2.out HB.out) | (with_reducible refine Kd.C_alloc ?_ _) | (with_reducible refine Kd.C_drewN ?_ _) | (with_reducible refine Kd.C_drew ?_))); (case side4 => exact HC2.out); rintro e w22 ⟨rfl, hb⟩; have n0_ := Aside0.mk (blk_below (g := g239) (o := .cells #[.int .i64 q0, .int .i64 q1, .slice A0_2 l0_2.length c0_2, .int .i64 q3, .int .i64 q4, .int .i64 q5, .int .i64 q6, .int .i64 q7, .int .i64 q8] 24 (0, 0)) (by (with_reducible repeat (first | refine blk_drewN ?_ _ | refine blk_drew ?_ | refine blk_alloc ?_ _)); exact BK239.out) hb); have n1_ := Aside0.mk (below_step (by repeat (first | (with_reducible first | exact HB.out | apply below_alloc | apply pw_below_drewN | apply below_drew1 | refine below_set ?_ GE239.out) | exact HB.out)) hb); clear BK239; clear HB; have BK239 := n0_; have HB := n1_; clear n0_ n1_; (try clear hb); (try clear hb2); (try clear hk); (try clear hi); have hcz23_0 : w22.cell? ⟨g239, 0, none⟩ = some (.int .i64 q0) := (blk_cell BK239.out 0).trans rfl; have hcz23_1 : w22.cell? ⟨g239, 1, none⟩ = some (.int .i64 q1) := (blk_cell BK239.out 1).trans rfl; have hcz23_2 : w22.cell? ⟨g239, 2, none⟩ = some (.slice A0_2 l0_2.length c0_2) := (blk_cell BK239.out 2).trans rfl; have hcz23_3 : w22.cell? ⟨g239, 3, none⟩ = some (.int .i64 q3) := (blk_cell BK239.out 3).trans rfl; have hcz23_4 : w22.cell? ⟨g239, 4, none⟩ = some (.int .i64 q4) := (blk_cell BK239.out 4).trans rfl; have hcz23_5 : w22.cell? ⟨g239, 5, none⟩ = some (.int .i64 q5) := (blk_cell BK239.out 5).trans rfl; have hcz23_6 : w22.cell? ⟨g239, 6, none⟩ = some (.int .i64 q6) := (blk_cell BK239.out 6).trans rfl; have hcz23_7 : w22.cell? ⟨g239, 7, none⟩ = some (.int .i64 q7) := (blk_cell BK239.out 7).trans rfl; have hcz23_8 : w22.cell? ⟨g239, 8, none⟩ = some (.int .i64 q8) := (blk_cell BK239.out 8).trans rfl; have hfz23_0 := blk_frozen BK239.out 0; have hfz23_1 := blk_frozen BK239.out 1; have hfz23_2 := blk_frozen BK239.out 2; have hfz23_3 := blk_frozen BK239.out 3; have hfz23_4 := blk_frozen BK239.out 4; have hfz23_5 := blk_frozen BK239.out 5; have hfz23_6 := blk_frozen BK239.out 6; have hfz23_7 := blk_frozen BK239.out 7; have hfz23_8 := blk_frozen BK239.out 8) | (go_at_call 21; (with_reducible refine (pylonlaw26_may.calls k q0 q1 _ _ l0_2 q3 q4 q5 q6 q7 q8 true _ ?side1 ?side2 A16.out).mono ?_); (case side1 => repeat (first | exact (Kd.C_below HR0_2.out HB.out) | (with_reducible refine Kd.C_alloc ?_ _) | (with_reducible refine Kd.C_drewN ?_ _) | (with_reducible refine Kd.C_drew ?_))); (case side2 => exact HC0_2.out); rintro e w24 ⟨rfl, hb⟩; have n0_ := Aside0.mk (blk_below (g := g239) (o := .cells #[.int .i64 q0, .int .i64 q1, .slice A0_2 l0_2.length c0_2, .int .i64 q3, .int .i64 q4, .int .i64 q5, .int .i64 q6, .int .i64 q7, .int .i64 q8] 24 (0, 0)) (by (with_reducible repeat (first | refine blk_drewN ?_ _ | refine blk_drew ?_ | refine blk_alloc ?_ _)); exact BK239.out) hb); have n1_ := Aside0.mk (below_step (by repeat (first | (with_reducible first | exact HB.out | apply below_alloc | apply pw_below_drewN | apply below_drew1 | refine below_set ?_ GE239.out) | exact HB.out)) hb); clear BK239; clear HB; have BK239 := n0_; have HB := n1_; clear n0_ n1_; (try clear hb); (try clear hb2); (try clear hk); (try clear hi)) | (go_at_call 17; (with_reducible refine (pylonlaw26_awake.calls  t243 _ A18.out).mono ?_); rintro e w25 ⟨rfl, hb⟩; have n0_ := Aside0.mk (blk_below (g := g239) (o := .cells #[.int .i64 q0, .int .i64 q1, .slice A0_2 l0_2.length c0_2, .int .i64 q3, .int .i64 q4, .int .i64 q5, .int .i64 q6, .int .i64 q7, .int .i64 q8] 24 (0, 0)) (by (with_reducible repeat (first | refine blk_drewN ?_ _ | refine blk_drew ?_ | refine blk_alloc ?_ _)); exact BK239.out) hb); have n1_ := Aside0.mk (below_step (by repeat (first | (with_reducible first | exact HB.out | apply below_alloc | apply pw_below_drewN | apply below_drew1 | refine below_set ?_ GE239.out) | exact HB.out)) hb); clear BK239; clear HB; have BK239 := n0_; have HB := n1_; clear n0_ n1_; (try clear hb); (try clear hb2); (try clear hk); (try clear hi)))
          go_meet
          case rel => exact ⟨_, (!t243), (by first | rfl | (simp; done) | (simp [*]; done)), H', ⟨by first | omega | exact Nat.le_refl _⟩, ⟨by (with_reducible repeat (first | refine blk_drewN ?_ _ | refine blk_drew ?_ | refine blk_alloc ?_ _)); exact BK239.out⟩, ⟨by repeat (first | (with_reducible first | exact HB.out | apply below_alloc | apply pw_below_drewN | apply below_drew1 | refine below_set ?_ GE239.out) | exact HB.out)⟩⟩
        · replace c17 := Bool.eq_false_iff.mpr c17
          subst c17
          have H1 : (pylonlaw26_UnitConcatenation.j0 k l1 l2 true q0 q1 l0_2 q3 q4 q5 q6 q7 q8) = some r := by rw [if_neg (show ¬ (false = true) by decide)] at H; exact H
          clear H
          have H := H1
          clear H1
          have H' := Aside0.mk H
          clear H
          have hcz26_0 : w5.cell? ⟨g239, 0, none⟩ = some (.int .i64 q0) := (blk_cell BK239.out 0).trans rfl
          have hcz26_1 : w5.cell? ⟨g239, 1, none⟩ = some (.int .i64 q1) := (blk_cell BK239.out 1).trans rfl
          have hcz26_2 : w5.cell? ⟨g239, 2, none⟩ = some (.slice A0_2 l0_2.length c0_2) := (blk_cell BK239.out 2).trans rfl
          have hcz26_3 : w5.cell? ⟨g239, 3, none⟩ = some (.int .i64 q3) := (blk_cell BK239.out 3).trans rfl
          have hcz26_4 : w5.cell? ⟨g239, 4, none⟩ = some (.int .i64 q4) := (blk_cell BK239.out 4).trans rfl
          have hcz26_5 : w5.cell? ⟨g239, 5, none⟩ = some (.int .i64 q5) := (blk_cell BK239.out 5).trans rfl
          have hcz26_6 : w5.cell? ⟨g239, 6, none⟩ = some (.int .i64 q6) := (blk_cell BK239.out 6).trans rfl
          have hcz26_7 : w5.cell? ⟨g239, 7, none⟩ = some (.int .i64 q7) := (blk_cell BK239.out 7).trans rfl
          have hcz26_8 : w5.cell? ⟨g239, 8, none⟩ = some (.int .i64 q8) := (blk_cell BK239.out 8).trans rfl
          have hfz26_0 := blk_frozen BK239.out 0
          have hfz26_1 := blk_frozen BK239.out 1
          have hfz26_2 := blk_frozen BK239.out 2
          have hfz26_3 := blk_frozen BK239.out 3
          have hfz26_4 := blk_frozen BK239.out 4
          have hfz26_5 := blk_frozen BK239.out 5
          have hfz26_6 := blk_frozen BK239.out 6
          have hfz26_7 := blk_frozen BK239.out 7
          have hfz26_8 := blk_frozen BK239.out 8
          go_wp2_with (first | ((with_reducible refine gate_callee (f := 16) rfl ?_); refine goesL_ (some 13) rfl rfl Try.func16 (by kernel_rfl) rfl #[.agg #[.int .i64 q0, .int .i64 q1, .slice A0_2 l0_2.length c0_2, .int .i64 q3, .int .i64 q4, .int .i64 q5, .int .i64 q6, .int .i64 q7, .int .i64 q8], .slice A1 l1.length c1] rfl (by (try simp only [List.map_toArray, List.map_cons, List.map_nil]); first | done | rfl | (simp only [List.length_drop, List.length_take]; rfl)) ?_; (with_reducible refine (pylonlaw26_Long.calls q0 q1 _ _ l0_2 q3 q4 q5 q6 q7 q8 _ _ l1 false _ ?side1 ?side2 ?side3 ?side4 A6.out).mono ?_); (case side1 => repeat (first | exact (Kd.C_below HR0_2.out HB.out) | (with_reducible refine Kd.C_alloc ?_ _) | (with_reducible refine Kd.C_drewN ?_ _) | (with_reducible refine Kd.C_drew ?_))); (case side2 => exact HC0_2.out); (case side3 => repeat (first | exact (Kd.C_below HR1.out HB.out) | (with_reducible refine Kd.C_alloc ?_ _) | (with_reducible refine Kd.C_drewN ?_ _) | (with_reducible refine Kd.C_drew ?_))); (case side4 => exact HC1.out); rintro e w27 ⟨rfl, hb⟩; refine ⟨_, rfl, ?_⟩; have n0_ := Aside0.mk (blk_below (g := g239) (o := .cells #[.int .i64 q0, .int .i64 q1, .slice A0_2 l0_2.length c0_2, .int .i64 q3, .int .i64 q4, .int .i64 q5, .int .i64 q6, .int .i64 q7, .int .i64 q8] 24 (0, 0)) (by (with_reducible repeat (first | refine blk_drewN ?_ _ | refine blk_drew ?_ | refine blk_alloc ?_ _)); exact BK239.out) hb); have n1_ := Aside0.mk (below_step (by repeat (first | (with_reducible first | exact HB.out | apply below_alloc | apply pw_below_drewN | apply below_drew1 | refine below_set ?_ GE239.out) | exact HB.out)) hb); clear BK239; clear HB; have BK239 := n0_; have HB := n1_; clear n0_ n1_; (try clear hb); (try clear hb2); (try clear hk); (try clear hi); have hcz28_0 : w27.cell? ⟨g239, 0, none⟩ = some (.int .i64 q0) := (blk_cell BK239.out 0).trans rfl; have hcz28_1 : w27.cell? ⟨g239, 1, none⟩ = some (.int .i64 q1) := (blk_cell BK239.out 1).trans rfl; have hcz28_2 : w27.cell? ⟨g239, 2, none⟩ = some (.slice A0_2 l0_2.length c0_2) := (blk_cell BK239.out 2).trans rfl; have hcz28_3 : w27.cell? ⟨g239, 3, none⟩ = some (.int .i64 q3) := (blk_cell BK239.out 3).trans rfl; have hcz28_4 : w27.cell? ⟨g239, 4, none⟩ = some (.int .i64 q4) := (blk_cell BK239.out 4).trans rfl; have hcz28_5 : w27.cell? ⟨g239, 5, none⟩ = some (.int .i64 q5) := (blk_cell BK239.out 5).trans rfl; have hcz28_6 : w27.cell? ⟨g239, 6, none⟩ = some (.int .i64 q6) := (blk_cell BK239.out 6).trans rfl; have hcz28_7 : w27.cell? ⟨g239, 7, none⟩ = some (.int .i64 q7) := (blk_cell BK239.out 7).trans rfl; have hcz28_8 : w27.cell? ⟨g239, 8, none⟩ = some (.int .i64 q8) := (blk_cell BK239.out 8).trans rfl; have hfz28_0 := blk_frozen BK239.out 0; have hfz28_1 := blk_frozen BK239.out 1; have hfz28_2 := blk_frozen BK239.out 2; have hfz28_3 := blk_frozen BK239.out 3; have hfz28_4 := blk_frozen BK239.out 4; have hfz28_5 := blk_frozen BK239.out 5; have hfz28_6 := blk_frozen BK239.out 6; have hfz28_7 := blk_frozen BK239.out 7; have hfz28_8 := blk_frozen BK239.out 8) | (go_at_call 16; (with_reducible refine (pylonlaw26_Long.calls q0 q1 _ _ l0_2 q3 q4 q5 q6 q7 q8 _ _ l2 false _ ?side1 ?side2 ?side3 ?side4 A10.out).mono ?_); (case side1 => repeat (first | exact (Kd.C_below HR0_2.out HB.out) | (with_reducible refine Kd.C_alloc ?_ _) | (with_reducible refine Kd.C_drewN ?_ _) | (with_reducible refine Kd.C_drew ?_))); (case side2 => exact HC0_2.out); (case side3 => repeat (first | exact (Kd.C_below HR2.out HB.out) | (with_reducible refine Kd.C_alloc ?_ _) | (with_reducible refine Kd.C_drewN ?_ _) | (with_reducible refine Kd.C_drew ?_))); (case side4 => exact HC2.out); rintro e w29 ⟨rfl, hb⟩; have n0_ := Aside0.mk (blk_below (g := g239) (o := .cells #[.int .i64 q0, .int .i64 q1, .slice A0_2 l0_2.length c0_2, .int .i64 q3, .int .i64 q4, .int .i64 q5, .int .i64 q6, .int .i64 q7, .int .i64 q8] 24 (0, 0)) (by (with_reducible repeat (first | refine blk_drewN ?_ _ | refine blk_drew ?_ | refine blk_alloc ?_ _)); exact BK239.out) hb); have n1_ := Aside0.mk (below_step (by repeat (first | (with_reducible first | exact HB.out | apply below_alloc | apply pw_below_drewN | apply below_drew1 | refine below_set ?_ GE239.out) | exact HB.out)) hb); clear BK239; clear HB; have BK239 := n0_; have HB := n1_; clear n0_ n1_; (try clear hb); (try clear hb2); (try clear hk); (try clear hi); have hcz30_0 : w29.cell? ⟨g239, 0, none⟩ = some (.int .i64 q0) := (blk_cell BK239.out 0).trans rfl; have hcz30_1 : w29.cell? ⟨g239, 1, none⟩ = some (.int .i64 q1) := (blk_cell BK239.out 1).trans rfl; have hcz30_2 : w29.cell? ⟨g239, 2, none⟩ = some (.slice A0_2 l0_2.length c0_2) := (blk_cell BK239.out 2).trans rfl; have hcz30_3 : w29.cell? ⟨g239, 3, none⟩ = some (.int .i64 q3) := (blk_cell BK239.out 3).trans rfl; have hcz30_4 : w29.cell? ⟨g239, 4, none⟩ = some (.int .i64 q4) := (blk_cell BK239.out 4).trans rfl; have hcz30_5 : w29.cell? ⟨g239, 5, none⟩ = some (.int .i64 q5) := (blk_cell BK239.out 5).trans rfl; have hcz30_6 : w29.cell? ⟨g239, 6, none⟩ = some (.int .i64 q6) := (blk_cell BK239.out 6).trans rfl; have hcz30_7 : w29.cell? ⟨g239, 7, none⟩ = some (.int .i64 q7) := (blk_cell BK239.out 7).trans rfl; have hcz30_8 : w29.cell? ⟨g239, 8, none⟩ = some (.int .i64 q8) := (blk_cell BK239.out 8).trans rfl; have hfz30_0 := blk_frozen BK239.out 0; have hfz30_1 := blk_frozen BK239.out 1; have hfz30_2 := blk_frozen BK239.out 2; have hfz30_3 := blk_frozen BK239.out 3; have hfz30_4 := blk_frozen BK239.out 4; have hfz30_5 := blk_frozen BK239.out 5; have hfz30_6 := blk_frozen BK239.out 6; have hfz30_7 := blk_frozen BK239.out 7; have hfz30_8 := blk_frozen BK239.out 8) | (go_at_call 21; (with_reducible refine (pylonlaw26_may.calls k q0 q1 _ _ l0_2 q3 q4 q5 q6 q7 q8 false _ ?side1 ?side2 A16.out).mono ?_); (case side1 => repeat (first | exact (Kd.C_below HR0_2.out HB.out) | (with_reducible refine Kd.C_alloc ?_ _) | (with_reducible refine Kd.C_drewN ?_ _) | (with_reducible refine Kd.C_drew ?_))); (case side2 => exact HC0_2.out); rintro e w31 ⟨rfl, hb⟩; have n0_ := Aside0.mk (blk_below (g := g239) (o := .cells #[.int .i64 q0, .int .i64 q1, .slice A0_2 l0_2.length c0_2, .int .i64 q3, .int .i64 q4, .int .i64 q5, .int .i64 q6, .int .i64 q7, .int .i64 q8] 24 (0, 0)) (by (with_reducible repeat (first | refine blk_drewN ?_ _ | refine blk_drew ?_ | refine blk_alloc ?_ _)); exact BK239.out) hb); have n1_ := Aside0.mk (below_step (by repeat (first | (with_reducible first | exact HB.out | apply below_alloc | apply pw_below_drewN | apply below_drew1 | refine below_set ?_ GE239.out) | exact HB.out)) hb); clear BK239; clear HB; have BK239 := n0_; have HB := n1_; clear n0_ n1_; (try clear hb); (try clear hb2); (try clear hk); (try clear hi)))
          go_meet
          case rel => exact ⟨_, (true), (by first | rfl | (simp; done) | (simp [*]; done)), H', ⟨by first | omega | exact Nat.le_refl _⟩, ⟨by (with_reducible repeat (first | refine blk_drewN ?_ _ | refine blk_drew ?_ | refine blk_alloc ?_ _)); exact BK239.out⟩, ⟨by repeat (first | (with_reducible first | exact HB.out | apply below_alloc | apply pw_below_drewN | apply below_drew1 | refine below_set ?_ GE239.out) | exact HB.out)⟩⟩
  case rest =>
    clear HC4
    try clear c1
    try clear c2
    try clear p2
    try clear c7
    try clear c8
    try clear c11
    try clear c16
    try clear c17
    try clear hcz12_0
    try clear hcz12_1
    try clear hcz12_2
    try clear hcz12_3
    try clear hcz12_4
    try clear hcz12_5
    try clear hcz12_6
    try clear hcz12_7
    try clear hcz12_8
    try clear hcz14_0
    try clear hcz14_1
    try clear hcz14_2
    try clear hcz14_3
    try clear hcz14_4
    try clear hcz14_5
    try clear hcz14_6
    try clear hcz14_7
    try clear hcz14_8
    try clear hcz19_0
    try clear hcz19_1
    try clear hcz19_2
    try clear hcz19_3
    try clear hcz19_4
    try clear hcz19_5
    try clear hcz19_6
    try clear hcz19_7
    try clear hcz19_8
    try clear hcz21_0
    try clear hcz21_1
    try clear hcz21_2
    try clear hcz21_3
    try clear hcz21_4
    try clear hcz21_5
    try clear hcz21_6
    try clear hcz21_7
    try clear hcz21_8
    try clear hcz23_0
    try clear hcz23_1
    try clear hcz23_2
    try clear hcz23_3
    try clear hcz23_4
    try clear hcz23_5
    try clear hcz23_6
    try clear hcz23_7
    try clear hcz23_8
    try clear hcz26_0
    try clear hcz26_1
    try clear hcz26_2
    try clear hcz26_3
    try clear hcz26_4
    try clear hcz26_5
    try clear hcz26_6
    try clear hcz26_7
    try clear hcz26_8
    try clear hcz28_0
    try clear hcz28_1
    try clear hcz28_2
    try clear hcz28_3
    try clear hcz28_4
    try clear hcz28_5
    try clear hcz28_6
    try clear hcz28_7
    try clear hcz28_8
    try clear hcz30_0
    try clear hcz30_1
    try clear hcz30_2
    try clear hcz30_3
    try clear hcz30_4
    try clear hcz30_5
    try clear hcz30_6
    try clear hcz30_7
    try clear hcz30_8
    try clear hcz8_0
    try clear hcz8_1
    try clear hcz8_2
    try clear hcz8_3
    try clear hcz8_4
    try clear hcz8_5
    try clear hcz8_6
    try clear hcz8_7
    try clear hcz8_8
    try clear hfz12_0
    try clear hfz12_1
    try clear hfz12_2
    try clear hfz12_3
    try clear hfz12_4
    try clear hfz12_5
    try clear hfz12_6
    try clear hfz12_7
    try clear hfz12_8
    try clear hfz14_0
    try clear hfz14_1
    try clear hfz14_2
    try clear hfz14_3
    try clear hfz14_4
    try clear hfz14_5
    try clear hfz14_6
    try clear hfz14_7
    try clear hfz14_8
    try clear hfz19_0
    try clear hfz19_1
    try clear hfz19_2
    try clear hfz19_3
    try clear hfz19_4
    try clear hfz19_5
    try clear hfz19_6
    try clear hfz19_7
    try clear hfz19_8
    try clear hfz21_0
    try clear hfz21_1
    try clear hfz21_2
    try clear hfz21_3
    try clear hfz21_4
    try clear hfz21_5
    try clear hfz21_6
    try clear hfz21_7
    try clear hfz21_8
    try clear hfz23_0
    try clear hfz23_1
    try clear hfz23_2
    try clear hfz23_3
    try clear hfz23_4
    try clear hfz23_5
    try clear hfz23_6
    try clear hfz23_7
    try clear hfz23_8
    try clear hfz26_0
    try clear hfz26_1
    try clear hfz26_2
    try clear hfz26_3
    try clear hfz26_4
    try clear hfz26_5
    try clear hfz26_6
    try clear hfz26_7
    try clear hfz26_8
    try clear hfz28_0
    try clear hfz28_1
    try clear hfz28_2
    try clear hfz28_3
    try clear hfz28_4
    try clear hfz28_5
    try clear hfz28_6
    try clear hfz28_7
    try clear hfz28_8
    try clear hfz30_0
    try clear hfz30_1
    try clear hfz30_2
    try clear hfz30_3
    try clear hfz30_4
    try clear hfz30_5
    try clear hfz30_6
    try clear hfz30_7
    try clear hfz30_8
    try clear hfz8_0
    try clear hfz8_1
    try clear hfz8_2
    try clear hfz8_3
    try clear hfz8_4
    try clear hfz8_5
    try clear hfz8_6
    try clear hfz8_7
    try clear hfz8_8
    obtain ⟨kq, x27_3, rfl, HA, HJ3, BK239, HB⟩ := hcut
    cases kq with
    | zero => exact absurd HA.out (by simp [pylonlaw26_UnitConcatenation.j0])
    | succ kj3 =>
      have H := HA.out
      clear HA
      simp only [pylonlaw26_UnitConcatenation.j0] at H
      by_cases c32 : x27_3 = true
      · subst c32
        have H1 : ((pylonlaw26_awake.f).bind fun t244 => (some t244)) = some r := by rw [if_pos rfl] at H; exact H
        clear H
        have H := H1
        clear H1
        replace H := Option.bind_eq_some_iff.mp H
        obtain ⟨t244, A330, H⟩ := H
        replace H : (some t244) = some r := H
        have A33 := Aside0.mk A330
        clear A330
        obtain rfl := Option.some.inj H
        go_wp2_with (first | ((with_reducible refine gate_callee (f := 17) rfl ?_); refine goesL_ (some 28) rfl rfl Try.func17 (by kernel_rfl) rfl #[] rfl (by (try simp only [List.map_toArray, List.map_cons, List.map_nil]); first | done | rfl | (simp only [List.length_drop, List.length_take]; rfl)) ?_; (with_reducible refine (pylonlaw26_awake.calls  t244 _ A33.out).mono ?_); rintro e w34 ⟨rfl, hb⟩; refine ⟨_, rfl, ?_⟩; have n0_ := Aside0.mk (blk_below (g := g239) (o := .cells #[.int .i64 q0, .int .i64 q1, .slice A0_2 l0_2.length c0_2, .int .i64 q3, .int .i64 q4, .int .i64 q5, .int .i64 q6, .int .i64 q7, .int .i64 q8] 24 (0, 0)) (by (with_reducible repeat (first | refine blk_drewN ?_ _ | refine blk_drew ?_ | refine blk_alloc ?_ _)); exact BK239.out) hb); have n1_ := Aside0.mk (below_step (by repeat (first | (with_reducible first | exact HB.out | apply below_alloc | apply pw_below_drewN | apply below_drew1 | refine below_set ?_ GE239.out) | exact HB.out)) hb); clear BK239; clear HB; have BK239 := n0_; have HB := n1_; clear n0_ n1_; (try clear hb); (try clear hb2); (try clear hk); (try clear hi)))
        go_ret
        exact ⟨by first | rfl | (simp [errW_none, errW_some] <;> rfl) | (simp [*, errW_none, errW_some] <;> rfl), by repeat (first | (with_reducible first | exact HB.out | apply below_alloc | apply pw_below_drewN | apply below_drew1 | refine below_set ?_ GE239.out) | exact HB.out)⟩
      · replace c32 := Bool.eq_false_iff.mpr c32
        subst c32
        have H1 : ((some (([] : List Bool) : List Bool)).bind fun y245 => (if y245.length + l1.length < 140737488355328 then ((some (y245 ++ l1 : List Bool)).bind fun y248 => (if y248.length + l2.length < 140737488355328 then ((some (y248 ++ l2 : List Bool)).bind fun y251 => ((unit_Feasible.f kj3 q0 q1 l0_2 q3 q4 q5 q6 q7 q8 l1).bind fun t254 => (if t254 = true then ((unit_Initial.f kj3 q0 q1 l0_2 q3 q4 q5 q6 q7 q8).bind fun t256 => (pylonlaw26_UnitConcatenation.l0 kj3 l1 l2 y251 t256 0 q0 q1 l0_2 q3 q4 q5 q6 q7 q8)) else ((unit_Feasible.f kj3 q0 q1 l0_2 q3 q4 q5 q6 q7 q8 y251).bind fun t255 => (some (!t255)))))) else (none))) else (none))) = some r := by rw [if_neg (show ¬ (false = true) by decide)] at H; exact H
        clear H
        have H := H1
        clear H1
        obtain ⟨y245, hy245⟩ : ∃ y_ : List Bool, y_ = (([] : List Bool)) := ⟨_, rfl⟩
        replace H : (if y245.length + l1.length < 140737488355328 then ((some (y245 ++ l1 : List Bool)).bind fun y248 => (if y248.length + l2.length < 140737488355328 then ((some (y248 ++ l2 : List Bool)).bind fun y251 => ((unit_Feasible.f kj3 q0 q1 l0_2 q3 q4 q5 q6 q7 q8 l1).bind fun t254 => (if t254 = true then ((unit_Initial.f kj3 q0 q1 l0_2 q3 q4 q5 q6 q7 q8).bind fun t256 => (pylonlaw26_UnitConcatenation.l0 kj3 l1 l2 y251 t256 0 q0 q1 l0_2 q3 q4 q5 q6 q7 q8)) else ((unit_Feasible.f kj3 q0 q1 l0_2 q3 q4 q5 q6 q7 q8 y251).bind fun t255 => (some (!t255)))))) else (none))) else (none)) = some r := by first | (rw [hy245]; with_reducible exact H) | (have H2_ := (Option.bind_some _ _).symm.trans H; rw [hy245]; with_reducible exact H2_) | (have H2_ := (Option.bind_some _ _).symm.trans H; with_reducible exact H2_) | with_reducible exact H | (rw [hy245]; exact H) | exact H
        have Ny245 := Aside0.mk hy245
        clear hy245
        by_cases c35 : y245.length + l1.length < 140737488355328
        · rw [if_pos c35] at H
          have LMc35 := Aside0.mk c35
          clear c35
          obtain ⟨y248, hy248⟩ : ∃ y_ : List Bool, y_ = (y245 ++ l1) := ⟨_, rfl⟩
          replace H : (if y248.length + l2.length < 140737488355328 then ((some (y248 ++ l2 : List Bool)).bind fun y251 => ((unit_Feasible.f kj3 q0 q1 l0_2 q3 q4 q5 q6 q7 q8 l1).bind fun t254 => (if t254 = true then ((unit_Initial.f kj3 q0 q1 l0_2 q3 q4 q5 q6 q7 q8).bind fun t256 => (pylonlaw26_UnitConcatenation.l0 kj3 l1 l2 y251 t256 0 q0 q1 l0_2 q3 q4 q5 q6 q7 q8)) else ((unit_Feasible.f kj3 q0 q1 l0_2 q3 q4 q5 q6 q7 q8 y251).bind fun t255 => (some (!t255)))))) else (none)) = some r := by first | (rw [hy248]; with_reducible exact H) | (have H2_ := (Option.bind_some _ _).symm.trans H; rw [hy248]; with_reducible exact H2_) | (have H2_ := (Option.bind_some _ _).symm.trans H; with_reducible exact H2_) | with_reducible exact H | (rw [hy248]; exact H) | exact H
          have Ny248 := Aside0.mk hy248
          clear hy248
          by_cases c36 : y248.length + l2.length < 140737488355328
          · rw [if_pos c36] at H
            have LMc36 := Aside0.mk c36
            clear c36
            obtain ⟨y251, hy251⟩ : ∃ y_ : List Bool, y_ = (y248 ++ l2) := ⟨_, rfl⟩
            replace H : ((unit_Feasible.f kj3 q0 q1 l0_2 q3 q4 q5 q6 q7 q8 l1).bind fun t254 => (if t254 = true then ((unit_Initial.f kj3 q0 q1 l0_2 q3 q4 q5 q6 q7 q8).bind fun t256 => (pylonlaw26_UnitConcatenation.l0 kj3 l1 l2 y251 t256 0 q0 q1 l0_2 q3 q4 q5 q6 q7 q8)) else ((unit_Feasible.f kj3 q0 q1 l0_2 q3 q4 q5 q6 q7 q8 y251).bind fun t255 => (some (!t255))))) = some r := by first | (rw [hy251]; with_reducible exact H) | (have H2_ := (Option.bind_some _ _).symm.trans H; rw [hy251]; with_reducible exact H2_) | (have H2_ := (Option.bind_some _ _).symm.trans H; with_reducible exact H2_) | with_reducible exact H | (rw [hy251]; exact H) | exact H
            have Ny251 := Aside0.mk hy251
            clear hy251
            replace H := Option.bind_eq_some_iff.mp H
            obtain ⟨t254, A370, H⟩ := H
            replace H : (if t254 = true then ((unit_Initial.f kj3 q0 q1 l0_2 q3 q4 q5 q6 q7 q8).bind fun t256 => (pylonlaw26_UnitConcatenation.l0 kj3 l1 l2 y251 t256 0 q0 q1 l0_2 q3 q4 q5 q6 q7 q8)) else ((unit_Feasible.f kj3 q0 q1 l0_2 q3 q4 q5 q6 q7 q8 y251).bind fun t255 => (some (!t255)))) = some r := H
            have A37 := Aside0.mk A370
            clear A370
            by_cases c38 : t254 = true
            · subst c38
              have H1 : ((unit_Initial.f kj3 q0 q1 l0_2 q3 q4 q5 q6 q7 q8).bind fun t256 => (pylonlaw26_UnitConcatenation.l0 kj3 l1 l2 y251 t256 0 q0 q1 l0_2 q3 q4 q5 q6 q7 q8)) = some r := by rw [if_pos rfl] at H; exact H
              clear H
              have H := H1
              clear H1
              replace H := Option.bind_eq_some_iff.mp H
              obtain ⟨t256, A390, H⟩ := H
              replace H : (pylonlaw26_UnitConcatenation.l0 kj3 l1 l2 y251 t256 0 q0 q1 l0_2 q3 q4 q5 q6 q7 q8) = some r := H
              have A39 := Aside0.mk A390
              clear A390
              have H' := Aside0.mk H
              clear H
              go_wp2_with (first | ((with_reducible refine gate_dst (N := 29) rfl ?_); refine Kd.R_lit Kd.bool _ 4 ?hg (N := 29) ?hd (xs := ([] : List Bool)) (inner := []) (ok := fun _ => True) (okp := fun _ => True) ?hr ?hp (fun _ hk => hk) trivial (Below.refl _ _) (Nat.le_refl _) (by simp) ?_; (case hd => rfl); (case hg => rfl); (case hr => first | (go_simp; done) | (go_simp; rfl)); (case hp => exact (Reps.none _ _)); intro v246 w40 ho41 hb hg_ hnew_; clear hg_ hnew_; (first | rw [← Ny245.out] at ho41 | (simp only [Int.reduceToNat] at ho41; rw [← Ny245.out] at ho41)); have n0_ := Aside0.mk (Kd.R_lower ho41 (below_size (by repeat (first | (with_reducible first | exact HB.out | apply below_alloc | apply pw_below_drewN | apply below_drew1 | refine below_set ?_ GE239.out) | exact HB.out)))); have n1_ := Aside0.mk (blk_below (g := g239) (o := .cells #[.int .i64 q0, .int .i64 q1, .slice A0_2 l0_2.length c0_2, .int .i64 q3, .int .i64 q4, .int .i64 q5, .int .i64 q6, .int .i64 q7, .int .i64 q8] 24 (0, 0)) (by (with_reducible repeat (first | refine blk_drewN ?_ _ | refine blk_drew ?_ | refine blk_alloc ?_ _)); exact BK239.out) hb); have n2_ := Aside0.mk (below_step (by repeat (first | (with_reducible first | exact HB.out | apply below_alloc | apply pw_below_drewN | apply below_drew1 | refine below_set ?_ GE239.out) | exact HB.out)) hb); clear BK239; clear HB; have HO247 := n0_; have BK239 := n1_; have HB := n2_; clear n0_ n1_ n2_; clear hb ho41) | ((with_reducible refine gate_builtin (b := .append) (xs := #[.tmp 29, .tmp 30]) rfl ?_); at_builtin; refine Kd.R_append_rows Kd.bool (w0 := w) w.heap.size rfl (.tmp 29) (.tmp 30) 32 4 (.bool false) 1 rfl Try.underlying32 info4 rfl (by decide) (by omega) v246 y245 l1 _ _ _ (fun _ => True) (fun _ => False) rfl rfl ?aO ?aR (fun _ _ h => h) (fun _ h => h.elim) ?aF ?aB ?aS ?aL ?_; (case aR => repeat (first | exact (Kd.C_below HR1.out HB.out) | (with_reducible refine Kd.C_alloc ?_ _) | (with_reducible refine Kd.C_drewN ?_ _) | (with_reducible refine Kd.C_drew ?_))); (case aB => exact (by repeat (first | (with_reducible first | exact HB.out | apply below_alloc | apply pw_below_drewN | apply below_drew1 | refine below_set ?_ GE239.out) | exact HB.out))); (case aF => exact (fun _ _ => trivial)); (case aO => exact (by (with_reducible repeat (first | apply Kd.R_alloc | apply Kd.R_drewN | apply Kd.R_drew)); exact HO247.out)); (case aS => exact (below_size (by repeat (first | (with_reducible first | exact HB.out | apply below_alloc | apply pw_below_drewN | apply below_drew1 | refine below_set ?_ GE239.out) | exact HB.out)))); (case aL => have := LMc35.out; omega); intro v249 w42 ho hb hg hat; rw [← Ny248.out] at ho; have n0_ := Aside0.mk (blk_grown (g := g239) (o := .cells #[.int .i64 q0, .int .i64 q1, .slice A0_2 l0_2.length c0_2, .int .i64 q3, .int .i64 q4, .int .i64 q5, .int .i64 q6, .int .i64 q7, .int .i64 q8] 24 (0, 0)) (by (with_reducible repeat (first | refine blk_drewN ?_ _ | refine blk_drew ?_ | refine blk_alloc ?_ _)); exact BK239.out) hg (Kd.R_ne HO247.out BK239.out (by decide))); have n1_ := Aside0.mk (hb); have n2_ := Aside0.mk (ho); clear BK239; clear HB; clear HO247; have BK239 := n0_; have HB := n1_; have HO250 := n2_; clear n0_ n1_ n2_; clear ho hb hg hat) | ((with_reducible refine gate_builtin (b := .append) (xs := #[.tmp 31, .tmp 32]) rfl ?_); at_builtin; refine Kd.R_append_rows Kd.bool (w0 := w) w.heap.size rfl (.tmp 31) (.tmp 32) 32 4 (.bool false) 1 rfl Try.underlying32 info4 rfl (by decide) (by omega) v249 y248 l2 _ _ _ (fun _ => True) (fun _ => False) rfl rfl ?aO ?aR (fun _ _ h => h) (fun _ h => h.elim) ?aF ?aB ?aS ?aL ?_; (case aR => repeat (first | exact (Kd.C_below HR2.out HB.out) | (with_reducible refine Kd.C_alloc ?_ _) | (with_reducible refine Kd.C_drewN ?_ _) | (with_reducible refine Kd.C_drew ?_))); (case aB => exact (by repeat (first | (with_reducible first | exact HB.out | apply below_alloc | apply pw_below_drewN | apply below_drew1 | refine below_set ?_ GE239.out) | exact HB.out))); (case aF => exact (fun _ _ => trivial)); (case aO => exact (by (with_reducible repeat (first | apply Kd.R_alloc | apply Kd.R_drewN | apply Kd.R_drew)); exact HO250.out)); (case aS => exact (below_size (by repeat (first | (with_reducible first | exact HB.out | apply below_alloc | apply pw_below_drewN | apply below_drew1 | refine below_set ?_ GE239.out) | exact HB.out)))); (case aL => have := LMc36.out; omega); intro v252 w43 ho hb hg hat; rw [← Ny251.out] at ho; have n0_ := Aside0.mk (blk_grown (g := g239) (o := .cells #[.int .i64 q0, .int .i64 q1, .slice A0_2 l0_2.length c0_2, .int .i64 q3, .int .i64 q4, .int .i64 q5, .int .i64 q6, .int .i64 q7, .int .i64 q8] 24 (0, 0)) (by (with_reducible repeat (first | refine blk_drewN ?_ _ | refine blk_drew ?_ | refine blk_alloc ?_ _)); exact BK239.out) hg (Kd.R_ne HO250.out BK239.out (by decide))); have n1_ := Aside0.mk (hb); have n2_ := Aside0.mk (ho); clear BK239; clear HB; clear HO250; have BK239 := n0_; have HB := n1_; have HO253 := n2_; clear n0_ n1_ n2_; clear ho hb hg hat; have hcz44_0 : w43.cell? ⟨g239, 0, none⟩ = some (.int .i64 q0) := (blk_cell BK239.out 0).trans rfl; have hcz44_1 : w43.cell? ⟨g239, 1, none⟩ = some (.int .i64 q1) := (blk_cell BK239.out 1).trans rfl; have hcz44_2 : w43.cell? ⟨g239, 2, none⟩ = some (.slice A0_2 l0_2.length c0_2) := (blk_cell BK239.out 2).trans rfl; have hcz44_3 : w43.cell? ⟨g239, 3, none⟩ = some (.int .i64 q3) := (blk_cell BK239.out 3).trans rfl; have hcz44_4 : w43.cell? ⟨g239, 4, none⟩ = some (.int .i64 q4) := (blk_cell BK239.out 4).trans rfl; have hcz44_5 : w43.cell? ⟨g239, 5, none⟩ = some (.int .i64 q5) := (blk_cell BK239.out 5).trans rfl; have hcz44_6 : w43.cell? ⟨g239, 6, none⟩ = some (.int .i64 q6) := (blk_cell BK239.out 6).trans rfl; have hcz44_7 : w43.cell? ⟨g239, 7, none⟩ = some (.int .i64 q7) := (blk_cell BK239.out 7).trans rfl; have hcz44_8 : w43.cell? ⟨g239, 8, none⟩ = some (.int .i64 q8) := (blk_cell BK239.out 8).trans rfl; have hfz44_0 := blk_frozen BK239.out 0; have hfz44_1 := blk_frozen BK239.out 1; have hfz44_2 := blk_frozen BK239.out 2; have hfz44_3 := blk_frozen BK239.out 3; have hfz44_4 := blk_frozen BK239.out 4; have hfz44_5 := blk_frozen BK239.out 5; have hfz44_6 := blk_frozen BK239.out 6; have hfz44_7 := blk_frozen BK239.out 7; have hfz44_8 := blk_frozen BK239.out 8) | ((with_reducible refine gate_callee (f := 22) rfl ?_); refine goesL_ (some 36) rfl rfl Try.func22 (by kernel_rfl) rfl #[.agg #[.int .i64 q0, .int .i64 q1, .slice A0_2 l0_2.length c0_2, .int .i64 q3, .int .i64 q4, .int .i64 q5, .int .i64 q6, .int .i64 q7, .int .i64 q8], .slice A1 l1.length c1] rfl (by (try simp only [List.map_toArray, List.map_cons, List.map_nil]); first | done | rfl | (simp only [List.length_drop, List.length_take]; rfl)) ?_; (with_reducible refine (unit_Feasible.calls kj3 q0 q1 _ _ l0_2 q3 q4 q5 q6 q7 q8 _ _ l1 true _ ?side1 ?side2 ?side3 ?side4 A37.out).mono ?_); (case side1 => repeat (first | exact (Kd.C_below HR0_2.out HB.out) | (with_reducible refine Kd.C_alloc ?_ _) | (with_reducible refine Kd.C_drewN ?_ _) | (with_reducible refine Kd.C_drew ?_))); (case side2 => exact HC0_2.out); (case side3 => repeat (first | exact (Kd.C_below HR1.out HB.out) | (with_reducible refine Kd.C_alloc ?_ _) | (with_reducible refine Kd.C_drewN ?_ _) | (with_reducible refine Kd.C_drew ?_))); (case side4 => exact HC1.out); rintro e w45 ⟨rfl, hb⟩; refine ⟨_, rfl, ?_⟩; have n0_ := Aside0.mk (Kd.R_below (by (with_reducible repeat (first | apply Kd.R_alloc | apply Kd.R_drewN | apply Kd.R_drew)); exact HO253.out) hb); have n1_ := Aside0.mk (blk_below (g := g239) (o := .cells #[.int .i64 q0, .int .i64 q1, .slice A0_2 l0_2.length c0_2, .int .i64 q3, .int .i64 q4, .int .i64 q5, .int .i64 q6, .int .i64 q7, .int .i64 q8] 24 (0, 0)) (by (with_reducible repeat (first | refine blk_drewN ?_ _ | refine blk_drew ?_ | refine blk_alloc ?_ _)); exact BK239.out) hb); have n2_ := Aside0.mk (below_step (by repeat (first | (with_reducible first | exact HB.out | apply below_alloc | apply pw_below_drewN | apply below_drew1 | refine below_set ?_ GE239.out) | exact HB.out)) hb); clear HO253; clear BK239; clear HB; have HO253 := n0_; have BK239 := n1_; have HB := n2_; clear n0_ n1_ n2_; (try clear hb); (try clear hb2); (try clear hk); (try clear hi); have hcz46_0 : w45.cell? ⟨g239, 0, none⟩ = some (.int .i64 q0) := (blk_cell BK239.out 0).trans rfl; have hcz46_1 : w45.cell? ⟨g239, 1, none⟩ = some (.int .i64 q1) := (blk_cell BK239.out 1).trans rfl; have hcz46_2 : w45.cell? ⟨g239, 2, none⟩ = some (.slice A0_2 l0_2.length c0_2) := (blk_cell BK239.out 2).trans rfl; have hcz46_3 : w45.cell? ⟨g239, 3, none⟩ = some (.int .i64 q3) := (blk_cell BK239.out 3).trans rfl; have hcz46_4 : w45.cell? ⟨g239, 4, none⟩ = some (.int .i64 q4) := (blk_cell BK239.out 4).trans rfl; have hcz46_5 : w45.cell? ⟨g239, 5, none⟩ = some (.int .i64 q5) := (blk_cell BK239.out 5).trans rfl; have hcz46_6 : w45.cell? ⟨g239, 6, none⟩ = some (.int .i64 q6) := (blk_cell BK239.out 6).trans rfl; have hcz46_7 : w45.cell? ⟨g239, 7, none⟩ = some (.int .i64 q7) := (blk_cell BK239.out 7).trans rfl; have hcz46_8 : w45.cell? ⟨g239, 8, none⟩ = some (.int .i64 q8) := (blk_cell BK239.out 8).trans rfl; have hfz46_0 := blk_frozen BK239.out 0; have hfz46_1 := blk_frozen BK239.out 1; have hfz46_2 := blk_frozen BK239.out 2; have hfz46_3 := blk_frozen BK239.out 3; have hfz46_4 := blk_frozen BK239.out 4; have hfz46_5 := blk_frozen BK239.out 5; have hfz46_6 := blk_frozen BK239.out 6; have hfz46_7 := blk_frozen BK239.out 7; have hfz46_8 := blk_frozen BK239.out 8) | ((with_reducible refine gate_callee (f := 23) rfl ?_); refine goesL_ (some 43) rfl rfl Try.func23 (by kernel_rfl) rfl #[.agg #[.int .i64 q0, .int .i64 q1, .slice A0_2 l0_2.length c0_2, .int .i64 q3, .int .i64 q4, .int .i64 q5, .int .i64 q6, .int .i64 q7, .int .i64 q8]] rfl (by (try simp only [List.map_toArray, List.map_cons, List.map_nil]); first | done | rfl | (simp only [List.length_drop, List.length_take]; rfl)) ?_; (with_reducible refine (unit_Initial.calls kj3 q0 q1 _ _ l0_2 q3 q4 q5 q6 q7 q8 t256 _ ?side1 ?side2 A39.out).mono ?_); (case side1 => repeat (first | exact (Kd.C_below HR0_2.out HB.out) | (with_reducible refine Kd.C_alloc ?_ _) | (with_reducible refine Kd.C_drewN ?_ _) | (with_reducible refine Kd.C_drew ?_))); (case side2 => exact HC0_2.out); rintro e w47 ⟨rfl, hb⟩; refine ⟨_, rfl, ?_⟩; have n0_ := Aside0.mk (Kd.R_below (by (with_reducible repeat (first | apply Kd.R_alloc | apply Kd.R_drewN | apply Kd.R_drew)); exact HO253.out) hb); have n1_ := Aside0.mk (blk_below (g := g239) (o := .cells #[.int .i64 q0, .int .i64 q1, .slice A0_2 l0_2.length c0_2, .int .i64 q3, .int .i64 q4, .int .i64 q5, .int .i64 q6, .int .i64 q7, .int .i64 q8] 24 (0, 0)) (by (with_reducible repeat (first | refine blk_drewN ?_ _ | refine blk_drew ?_ | refine blk_alloc ?_ _)); exact BK239.out) hb); have n2_ := Aside0.mk (below_step (by repeat (first | (with_reducible first | exact HB.out | apply below_alloc | apply pw_below_drewN | apply below_drew1 | refine below_set ?_ GE239.out) | exact HB.out)) hb); clear HO253; clear BK239; clear HB; have HO253 := n0_; have BK239 := n1_; have HB := n2_; clear n0_ n1_ n2_; (try clear hb); (try clear hb2); (try clear hk); (try clear hi)))
              go_loopg [8, 9] kj3 (fun kq v8 v9 w' => ∃ (x8_2 : Int) (x9_2 : Int), v8 = .int .i64 x8_2 ∧ v9 = .int .i64 x9_2 ∧ Aside0 (pylonlaw26_UnitConcatenation.l0 kq l1 l2 y251 x8_2 x9_2 q0 q1 l0_2 q3 q4 q5 q6 q7 q8 = some r) ∧ Aside0 (kq ≤ kj3) ∧ Aside0 (Kd.R Kd.bool 4 w' w.heap.size (fun _ => True) v252 y251) ∧ Aside0 (w'.heap[g239]? = some (.cells #[.int .i64 q0, .int .i64 q1, (.slice A0_2 l0_2.length c0_2), .int .i64 q3, .int .i64 q4, .int .i64 q5, .int .i64 q6, .int .i64 q7, .int .i64 q8] 24 (0, 0))) ∧ Aside0 (Below w.heap.size w w'))
              case atStart => exact ⟨(t256), (0), (by first | rfl | (simp; done) | (simp [*]; done)), (by first | rfl | (simp; done) | (simp [*]; done)), H', ⟨Nat.le_refl _⟩, ⟨by (with_reducible repeat (first | apply Kd.R_alloc | apply Kd.R_drewN | apply Kd.R_drew)); exact HO253.out⟩, ⟨by (with_reducible repeat (first | refine blk_drewN ?_ _ | refine blk_drew ?_ | refine blk_alloc ?_ _)); exact BK239.out⟩, ⟨by repeat (first | (with_reducible first | exact HB.out | apply below_alloc | apply pw_below_drewN | apply below_drew1 | refine below_set ?_ GE239.out) | exact HB.out)⟩⟩
              case round =>
                clear H'
                try clear c1
                try clear c2
                try clear p2
                try clear c3
                try clear c7
                try clear c8
                try clear c11
                try clear c16
                try clear c17
                try clear c22
                try clear c23
                try clear c32
                try clear c35
                try clear c36
                try clear c38
                try clear hcz12_0
                try clear hcz12_1
                try clear hcz12_2
                try clear hcz12_3
                try clear hcz12_4
                try clear hcz12_5
                try clear hcz12_6
                try clear hcz12_7
                try clear hcz12_8
                try clear hcz14_0
                try clear hcz14_1
                try clear hcz14_2
                try clear hcz14_3
                try clear hcz14_4
                try clear hcz14_5
                try clear hcz14_6
                try clear hcz14_7
                try clear hcz14_8
                try clear hcz19_0
                try clear hcz19_1
                try clear hcz19_2
                try clear hcz19_3
                try clear hcz19_4
                try clear hcz19_5
                try clear hcz19_6
                try clear hcz19_7
                try clear hcz19_8
                try clear hcz21_0
                try clear hcz21_1
                try clear hcz21_2
                try clear hcz21_3
                try clear hcz21_4
                try clear hcz21_5
                try clear hcz21_6
                try clear hcz21_7
                try clear hcz21_8
                try clear hcz23_0
                try clear hcz23_1
                try clear hcz23_2
                try clear hcz23_3
                try clear hcz23_4
                try clear hcz23_5
                try clear hcz23_6
                try clear hcz23_7
                try clear hcz23_8
                try clear hcz26_0
                try clear hcz26_1
                try clear hcz26_2
                try clear hcz26_3
                try clear hcz26_4
                try clear hcz26_5
                try clear hcz26_6
                try clear hcz26_7
                try clear hcz26_8
                try clear hcz28_0
                try clear hcz28_1
                try clear hcz28_2
                try clear hcz28_3
                try clear hcz28_4
                try clear hcz28_5
                try clear hcz28_6
                try clear hcz28_7
                try clear hcz28_8
                try clear hcz30_0
                try clear hcz30_1
                try clear hcz30_2
                try clear hcz30_3
                try clear hcz30_4
                try clear hcz30_5
                try clear hcz30_6
                try clear hcz30_7
                try clear hcz30_8
                try clear hcz44_0
                try clear hcz44_1
                try clear hcz44_2
                try clear hcz44_3
                try clear hcz44_4
                try clear hcz44_5
                try clear hcz44_6
                try clear hcz44_7
                try clear hcz44_8
                try clear hcz46_0
                try clear hcz46_1
                try clear hcz46_2
                try clear hcz46_3
                try clear hcz46_4
                try clear hcz46_5
                try clear hcz46_6
                try clear hcz46_7
                try clear hcz46_8
                try clear hcz8_0
                try clear hcz8_1
                try clear hcz8_2
                try clear hcz8_3
                try clear hcz8_4
                try clear hcz8_5
                try clear hcz8_6
                try clear hcz8_7
                try clear hcz8_8
                try clear hfz12_0
                try clear hfz12_1
                try clear hfz12_2
                try clear hfz12_3
                try clear hfz12_4
                try clear hfz12_5
                try clear hfz12_6
                try clear hfz12_7
                try clear hfz12_8
                try clear hfz14_0
                try clear hfz14_1
                try clear hfz14_2
                try clear hfz14_3
                try clear hfz14_4
                try clear hfz14_5
                try clear hfz14_6
                try clear hfz14_7
                try clear hfz14_8
                try clear hfz19_0
                try clear hfz19_1
                try clear hfz19_2
                try clear hfz19_3
                try clear hfz19_4
                try clear hfz19_5
                try clear hfz19_6
                try clear hfz19_7
                try clear hfz19_8
                try clear hfz21_0
                try clear hfz21_1
                try clear hfz21_2
                try clear hfz21_3
                try clear hfz21_4
                try clear hfz21_5
                try clear hfz21_6
                try clear hfz21_7
                try clear hfz21_8
                try clear hfz23_0
                try clear hfz23_1
                try clear hfz23_2
                try clear hfz23_3
                try clear hfz23_4
                try clear hfz23_5
                try clear hfz23_6
                try clear hfz23_7
                try clear hfz23_8
                try clear hfz26_0
                try clear hfz26_1
                try clear hfz26_2
                try clear hfz26_3
                try clear hfz26_4
                try clear hfz26_5
                try clear hfz26_6
                try clear hfz26_7
                try clear hfz26_8
                try clear hfz28_0
                try clear hfz28_1
                try clear hfz28_2
                try clear hfz28_3
                try clear hfz28_4
                try clear hfz28_5
                try clear hfz28_6
                try clear hfz28_7
                try clear hfz28_8
                try clear hfz30_0
                try clear hfz30_1
                try clear hfz30_2
                try clear hfz30_3
                try clear hfz30_4
                try clear hfz30_5
                try clear hfz30_6
                try clear hfz30_7
                try clear hfz30_8
                try clear hfz44_0
                try clear hfz44_1
                try clear hfz44_2
                try clear hfz44_3
                try clear hfz44_4
                try clear hfz44_5
                try clear hfz44_6
                try clear hfz44_7
                try clear hfz44_8
                try clear hfz46_0
                try clear hfz46_1
                try clear hfz46_2
                try clear hfz46_3
                try clear hfz46_4
                try clear hfz46_5
                try clear hfz46_6
                try clear hfz46_7
                try clear hfz46_8
                try clear hfz8_0
                try clear hfz8_1
                try clear hfz8_2
                try clear hfz8_3
                try clear hfz8_4
                try clear hfz8_5
                try clear hfz8_6
                try clear hfz8_7
                try clear hfz8_8
                try clear p2
                obtain ⟨x8_2, x9_2, rfl, rfl, HA, HK2, HO_7, BK239, HB⟩ := hrel
                cases gk with
                | zero => exact absurd HA.out (by simp [pylonlaw26_UnitConcatenation.l0])
                | succ k2 =>
                  have H := HA.out
                  clear HA
                  simp only [pylonlaw26_UnitConcatenation.l0] at H
                  by_cases c48 : x9_2 < (l1.length : Int)
                  · rw [if_pos c48] at H
                    have c48b0 : decide (x9_2 < (l1.length : Int)) = true := decide_eq_true c48
                    clear c48
                    by_cases c49 : 0 ≤ x9_2
                    · rw [if_pos c49] at H
                      have c49b0 : decide (0 ≤ x9_2) = true := decide_eq_true c49
                      clear c49
                      replace H := Option.bind_eq_some_iff.mp H
                      obtain ⟨⟨t258, t259⟩, A500, H⟩ := H
                      replace H : (pylonlaw26_UnitConcatenation.l0 k2 l1 l2 y251 t258 (wrap64 (x9_2 + 1)) q0 q1 l0_2 q3 q4 q5 q6 q7 q8) = some r := H
                      have A50 := Aside0.mk A500
                      clear A500
                      have H' := Aside0.mk H
                      clear H
                      try go_wp2
                      have n0_ := Aside0.mk (Kd.R_drew HO_7.out)
                      have n1_ := Aside0.mk (blk_drew BK239.out)
                      have n2_ := Aside0.mk (below_drew1 HB.out)
                      clear HO_7
                      clear BK239
                      clear HB
                      have HO_7 := n0_
                      have BK239 := n1_
                      have HB := n2_
                      clear n0_ n1_ n2_
                      have p257 : 0 ≤ (x9_2 : Int) := of_decide_eq_true (by first | (with_reducible assumption) | assumption)
                      have q257 : x9_2 < (l1.length : Int) := of_decide_eq_true (by first | (with_reducible assumption) | assumption)
                      obtain ⟨ad257, e257, hx257_0⟩ := Kd.at_bool HR1.out x9_2 p257 q257
                      have hw257_0 := hx257_0
                      cases e257
                      replace hx257_0 := (HB.out.cell (World.block_lt_of_cell? w _ hx257_0)).trans hx257_0
                      replace p257 := eq_true p257
                      replace q257 := eq_true q257
                      refine start_ (n := 11) (S := fun w' => w'.cell? ⟨g239, 0, none⟩ = some (.int .i64 q0) ∧ w'.cell? ⟨g239, 1, none⟩ = some (.int .i64 q1) ∧ w'.cell? ⟨g239, 2, none⟩ = some (.slice A0_2 l0_2.length c0_2) ∧ w'.cell? ⟨g239, 3, none⟩ = some (.int .i64 q3) ∧ w'.cell? ⟨g239, 4, none⟩ = some (.int .i64 q4) ∧ w'.cell? ⟨g239, 5, none⟩ = some (.int .i64 q5) ∧ w'.cell? ⟨g239, 6, none⟩ = some (.int .i64 q6) ∧ w'.cell? ⟨g239, 7, none⟩ = some (.int .i64 q7) ∧ w'.cell? ⟨g239, 8, none⟩ = some (.int .i64 q8) ∧ w'.cell? (ad257.add (x9_2).toNat) = some (.bool (rdOf false l1 x9_2))) (ds := []) (pbn 11 11) (by kernel_rfl) rfl rfl ⟨(blk_cell BK239.out 0).trans rfl, (blk_cell BK239.out 1).trans rfl, (blk_cell BK239.out 2).trans rfl, (blk_cell BK239.out 3).trans rfl, (blk_cell BK239.out 4).trans rfl, (blk_cell BK239.out 5).trans rfl, (blk_cell BK239.out 6).trans rfl, (blk_cell BK239.out 7).trans rfl, (blk_cell BK239.out 8).trans rfl, ((HB.out.cell (World.block_lt_of_cell? w _ hw257_0)).trans hw257_0)⟩ (fun hHeld => ?_); refine with_tabW pylonlaw26_UnitConcatenation.tab10 pylonlaw26_UnitConcatenation.bits10 (fun HT_ HW_ => ?_)
                      generalize wr.drew = w51 at HO_7 BK239 HB hx257_0 hHeld ⊢
                      refine pure_ (i := 1) (N := some 52) (v := ?_) (a' := ?_) #[false, true, false, false, false, false, false, false, false, false, false] rfl rfl (any_of HT_.out (by kernel_rfl)) (fun _ _ _ h => h) (Or.inl ⟨by rfl, ?_⟩) ?_ ?_
                      rotate_left
                      · intro w'
                        go_simp
                        with_reducible rfl
                      rotate_left
                      · simp only [Act.put, List.setIfInBounds_toArray, List.set_cons_zero, List.set_cons_succ, i64_w, i32_w]
                        rfl
                      refine pure_ (i := 2) (N := some 53) (v := ?_) (a' := ?_) #[false, true, true, false, false, false, false, false, false, false, false] rfl rfl (any_of HT_.out (by kernel_rfl)) (fun _ _ _ h => h) (Or.inl ⟨by rfl, ?_⟩) ?_ ?_
                      rotate_left
                      · intro w'
                        go_simp
                        with_reducible rfl
                      rotate_left
                      · simp only [Act.put, List.setIfInBounds_toArray, List.set_cons_zero, List.set_cons_succ, i64_w, i32_w]
                        rfl
                      refine pure_ (i := 3) (N := some 54) (v := ?_) (a' := ?_) #[false, true, true, true, false, false, false, false, false, false, false] rfl rfl (any_of HT_.out (by kernel_rfl)) (fun _ _ _ h => h) (Or.inl ⟨by rfl, ?_⟩) ?_ ?_
                      rotate_left
                      · intro w'
                        go_simp
                        with_reducible rfl
                      rotate_left
                      · simp only [Act.put, List.setIfInBounds_toArray, List.set_cons_zero, List.set_cons_succ, i64_w, i32_w]
                        rfl
                      refine pure_ (i := 4) (N := some 55) (v := ?_) (a' := ?_) #[false, true, true, true, true, false, false, false, false, false, false] rfl rfl (any_of HT_.out (by kernel_rfl)) (fun _ _ _ h => h) (Or.inl ⟨by rfl, ?_⟩) ?_ ?_
                      rotate_left
                      · intro w'
                        go_simp
                        with_reducible rfl
                      rotate_left
                      · simp only [Act.put, List.setIfInBounds_toArray, List.set_cons_zero, List.set_cons_succ, i64_w, i32_w]
                        rfl
                      refine take_ (i := 0) (N := some 51) (v := ?_) (a' := ?_) (pbn 11 6) rfl rfl (take_ofW HT_.out HW_.out (by kernel_rfl)) (fun _ _ _ h => h) (Or.inl ⟨by rfl, ?_⟩) hHeld ?_ ?_
                      rotate_left
                      · rintro w' ⟨s0, s1, s2, s3, s4, s5, s6, s7, s8, s9⟩
                        go_simp
                        with_reducible rfl
                      rotate_left
                      · simp only [Act.put, List.setIfInBounds_toArray, List.set_cons_zero, List.set_cons_succ, i64_w, i32_w]
                        rfl
                      (refine takeAt (n := 11) (v := ?_) (a' := ?_) rfl rfl rfl (take_ofW HT_.out HW_.out (by kernel_rfl)) (fun _ _ _ h => h) (Or.inl ⟨by rfl, ?_⟩) hHeld ?_ ?_; rotate_left; (focus (rintro w' ⟨s0, s1, s2, s3, s4, s5, s6, s7, s8, s9⟩; go_simp; with_reducible rfl)); rotate_left; (focus (simp only [Act.put, List.setIfInBounds_toArray, List.set_cons_zero, List.set_cons_succ, i64_w, i32_w]; rfl)))
                      refine one_ (i := 6) (N := some 57) (pbn 11 4) rfl rfl (one_of HT_.out (by kernel_rfl)) (by decide) (fun K hK => ?_)
                      refine goes_ Try.func24 (by kernel_rfl) rfl #[.agg #[.int .i64 q0, .int .i64 q1, .slice A0_2 l0_2.length c0_2, .int .i64 q3, .int .i64 q4, .int .i64 q5, .int .i64 q6, .int .i64 q7, .int .i64 q8], .int .i64 x8_2, .bool (rdOf false l1 x9_2)] (by rfl) rfl rfl (by (try simp only [List.map_toArray, List.map_cons, List.map_nil]); first | done | rfl | (simp only [List.length_drop, List.length_take]; rfl)) ?_
                      with_reducible refine (unit_Next.calls k2 q0 q1 _ _ l0_2 q3 q4 q5 q6 q7 q8 x8_2 (rdOf false l1 x9_2) t258 t259 _ ?side1 ?side2 A50.out).mono ?_
                      (case side1 => repeat (first | exact (Kd.C_below HR0_2.out HB.out) | (with_reducible refine Kd.C_alloc ?_ _) | (with_reducible refine Kd.C_drewN ?_ _) | (with_reducible refine Kd.C_drew ?_)))
                      (case side2 => exact HC0_2.out)
                      rintro e w52 ⟨rfl, hb⟩
                      refine ⟨_, rfl, ?_⟩
                      have n0_ := Aside0.mk (Kd.R_below (by (with_reducible repeat (first | apply Kd.R_alloc | apply Kd.R_drewN | apply Kd.R_drew)); exact HO_7.out) hb)
                      have n1_ := Aside0.mk (blk_below (g := g239) (o := .cells #[.int .i64 q0, .int .i64 q1, .slice A0_2 l0_2.length c0_2, .int .i64 q3, .int .i64 q4, .int .i64 q5, .int .i64 q6, .int .i64 q7, .int .i64 q8] 24 (0, 0)) (by (with_reducible repeat (first | refine blk_drewN ?_ _ | refine blk_drew ?_ | refine blk_alloc ?_ _)); exact BK239.out) hb)
                      have n2_ := Aside0.mk (below_step (by repeat (first | (with_reducible first | exact HB.out | apply below_alloc | apply pw_below_drewN | apply below_drew1 | refine below_set ?_ GE239.out) | exact HB.out)) hb)
                      clear HO_7
                      clear BK239
                      clear HB
                      have HO_7 := n0_
                      have BK239 := n1_
                      have HB := n2_
                      clear n0_ n1_ n2_
                      (try clear hb)
                      (try clear hb2)
                      (try clear hk)
                      (try clear hi)
                      refine hK.out _ _ ⟨(blk_cell BK239.out 0).trans rfl, (blk_cell BK239.out 1).trans rfl, (blk_cell BK239.out 2).trans rfl, (blk_cell BK239.out 3).trans rfl, (blk_cell BK239.out 4).trans rfl, (blk_cell BK239.out 5).trans rfl, (blk_cell BK239.out 6).trans rfl, (blk_cell BK239.out 7).trans rfl, (blk_cell BK239.out 8).trans rfl, ((HB.out.cell (World.block_lt_of_cell? w _ hw257_0)).trans hw257_0)⟩ (fun hHeld => ?_)
                      clear hK K
                      refine norm_ (a' := ?_) ?_ ?_
                      rotate_left
                      · show Act.put _ (some 57) _ = _
                        simp only [Act.put, List.setIfInBounds_toArray, List.set_cons_zero, List.set_cons_succ, i64_w, i32_w]
                        rfl
                      iterate 4 ((refine pureAt (n := 11) (v := ?_) (a' := ?_) rfl rfl rfl (any_of HT_.out (by kernel_rfl)) (fun _ _ _ h => h) (Or.inl ⟨by rfl, ?_⟩) ?_ ?_; rotate_left; (focus (intro w'; go_simp; with_reducible rfl)); rotate_left; (focus (simp only [Act.put, List.setIfInBounds_toArray, List.set_cons_zero, List.set_cons_succ, i64_w, i32_w]; rfl))))
                      refine done_ (done_of HT_.out (by kernel_rfl)) ?_
                      try go_wp2
                      go_roundg k2
                      case measure => have := HJ3.out; have := HK2.out; omega
                      case rel => exact ⟨(t258), (wrap64 (x9_2 + 1)), (by first | rfl | (simp; done) | (simp [*]; done)), (by first | rfl | (simp; done) | (simp [*]; done)), H', ⟨by have := HJ3.out; have := HK2.out; omega⟩, ⟨by (with_reducible repeat (first | apply Kd.R_alloc | apply Kd.R_drewN | apply Kd.R_drew)); exact HO_7.out⟩, ⟨by (with_reducible repeat (first | refine blk_drewN ?_ _ | refine blk_drew ?_ | refine blk_alloc ?_ _)); exact BK239.out⟩, ⟨by repeat (first | (with_reducible first | exact HB.out | apply below_alloc | apply pw_below_drewN | apply below_drew1 | refine below_set ?_ GE239.out) | exact HB.out)⟩⟩
                    · rw [if_neg c49] at H
                      exact absurd H (by simp)
                  · rw [if_neg c48] at H
                    have c48b0 : decide (x9_2 < (l1.length : Int)) = false := decide_eq_false c48
                    clear c48
                    replace H := Option.bind_eq_some_iff.mp H
                    obtain ⟨t261, A530, H⟩ := H
                    replace H : (if t261 = true then ((unit_Feasible.f k2 q0 q1 l0_2 q3 q4 q5 q6 q7 q8 y251).bind fun t262 => ((unit_Feasible.f k2 q0 q1 l0_2 q3 q4 q5 q6 q7 x8_2 l2).bind fun t263 => (if (t262 == t263) = true then ((unit_Starts.f k2 q0 q1 l0_2 q3 q4 q5 q6 q7 q8 y251).bind fun t264 => ((unit_Starts.f k2 q0 q1 l0_2 q3 q4 q5 q6 q7 q8 l1).bind fun t265 => ((unit_Starts.f k2 q0 q1 l0_2 q3 q4 q5 q6 q7 x8_2 l2).bind fun t266 => (if t264 = (wrap64 (t265 + t266)) then ((unit_FixedCost.f k2 q0 q1 l0_2 q3 q4 q5 q6 q7 q8 y251).bind fun t267 => ((unit_FixedCost.f k2 q0 q1 l0_2 q3 q4 q5 q6 q7 q8 l1).bind fun t268 => ((unit_FixedCost.f k2 q0 q1 l0_2 q3 q4 q5 q6 q7 x8_2 l2).bind fun t269 => (some (t267 == (wrap64 (t268 + t269))))))) else (some false))))) else (some false)))) else (some false)) = some r := H
                    have A53 := Aside0.mk A530
                    clear A530
                    by_cases c54 : t261 = true
                    · subst c54
                      have H1 : ((unit_Feasible.f k2 q0 q1 l0_2 q3 q4 q5 q6 q7 q8 y251).bind fun t262 => ((unit_Feasible.f k2 q0 q1 l0_2 q3 q4 q5 q6 q7 x8_2 l2).bind fun t263 => (if (t262 == t263) = true then ((unit_Starts.f k2 q0 q1 l0_2 q3 q4 q5 q6 q7 q8 y251).bind fun t264 => ((unit_Starts.f k2 q0 q1 l0_2 q3 q4 q5 q6 q7 q8 l1).bind fun t265 => ((unit_Starts.f k2 q0 q1 l0_2 q3 q4 q5 q6 q7 x8_2 l2).bind fun t266 => (if t264 = (wrap64 (t265 + t266)) then ((unit_FixedCost.f k2 q0 q1 l0_2 q3 q4 q5 q6 q7 q8 y251).bind fun t267 => ((unit_FixedCost.f k2 q0 q1 l0_2 q3 q4 q5 q6 q7 q8 l1).bind fun t268 => ((unit_FixedCost.f k2 q0 q1 l0_2 q3 q4 q5 q6 q7 x8_2 l2).bind fun t269 => (some (t267 == (wrap64 (t268 + t269))))))) else (some false))))) else (some false)))) = some r := by rw [if_pos rfl] at H; exact H
                      clear H
                      have H := H1
                      clear H1
                      replace H := Option.bind_eq_some_iff.mp H
                      obtain ⟨t262, A550, H⟩ := H
                      replace H : ((unit_Feasible.f k2 q0 q1 l0_2 q3 q4 q5 q6 q7 x8_2 l2).bind fun t263 => (if (t262 == t263) = true then ((unit_Starts.f k2 q0 q1 l0_2 q3 q4 q5 q6 q7 q8 y251).bind fun t264 => ((unit_Starts.f k2 q0 q1 l0_2 q3 q4 q5 q6 q7 q8 l1).bind fun t265 => ((unit_Starts.f k2 q0 q1 l0_2 q3 q4 q5 q6 q7 x8_2 l2).bind fun t266 => (if t264 = (wrap64 (t265 + t266)) then ((unit_FixedCost.f k2 q0 q1 l0_2 q3 q4 q5 q6 q7 q8 y251).bind fun t267 => ((unit_FixedCost.f k2 q0 q1 l0_2 q3 q4 q5 q6 q7 q8 l1).bind fun t268 => ((unit_FixedCost.f k2 q0 q1 l0_2 q3 q4 q5 q6 q7 x8_2 l2).bind fun t269 => (some (t267 == (wrap64 (t268 + t269))))))) else (some false))))) else (some false))) = some r := H
                      have A55 := Aside0.mk A550
                      clear A550
                      replace H := Option.bind_eq_some_iff.mp H
                      obtain ⟨t263, A560, H⟩ := H
                      replace H : (if (t262 == t263) = true then ((unit_Starts.f k2 q0 q1 l0_2 q3 q4 q5 q6 q7 q8 y251).bind fun t264 => ((unit_Starts.f k2 q0 q1 l0_2 q3 q4 q5 q6 q7 q8 l1).bind fun t265 => ((unit_Starts.f k2 q0 q1 l0_2 q3 q4 q5 q6 q7 x8_2 l2).bind fun t266 => (if t264 = (wrap64 (t265 + t266)) then ((unit_FixedCost.f k2 q0 q1 l0_2 q3 q4 q5 q6 q7 q8 y251).bind fun t267 => ((unit_FixedCost.f k2 q0 q1 l0_2 q3 q4 q5 q6 q7 q8 l1).bind fun t268 => ((unit_FixedCost.f k2 q0 q1 l0_2 q3 q4 q5 q6 q7 x8_2 l2).bind fun t269 => (some (t267 == (wrap64 (t268 + t269))))))) else (some false))))) else (some false)) = some r := H
                      have A56 := Aside0.mk A560
                      clear A560
                      by_cases c57 : (t262 == t263) = true
                      · rw [if_pos c57] at H
                        have c57b0 : (t262 == t263) = true := c57
                        (try (have c57b1 : decide (t262 = t263) = true := by simpa using c57))
                        (try (have c57b2 : (t262 == t263) = true := by simpa using c57))
                        clear c57
                        replace H := Option.bind_eq_some_iff.mp H
                        obtain ⟨t264, A580, H⟩ := H
                        replace H : ((unit_Starts.f k2 q0 q1 l0_2 q3 q4 q5 q6 q7 q8 l1).bind fun t265 => ((unit_Starts.f k2 q0 q1 l0_2 q3 q4 q5 q6 q7 x8_2 l2).bind fun t266 => (if t264 = (wrap64 (t265 + t266)) then ((unit_FixedCost.f k2 q0 q1 l0_2 q3 q4 q5 q6 q7 q8 y251).bind fun t267 => ((unit_FixedCost.f k2 q0 q1 l0_2 q3 q4 q5 q6 q7 q8 l1).bind fun t268 => ((unit_FixedCost.f k2 q0 q1 l0_2 q3 q4 q5 q6 q7 x8_2 l2).bind fun t269 => (some (t267 == (wrap64 (t268 + t269))))))) else (some false)))) = some r := H
                        have A58 := Aside0.mk A580
                        clear A580
                        replace H := Option.bind_eq_some_iff.mp H
                        obtain ⟨t265, A590, H⟩ := H
                        replace H : ((unit_Starts.f k2 q0 q1 l0_2 q3 q4 q5 q6 q7 x8_2 l2).bind fun t266 => (if t264 = (wrap64 (t265 + t266)) then ((unit_FixedCost.f k2 q0 q1 l0_2 q3 q4 q5 q6 q7 q8 y251).bind fun t267 => ((unit_FixedCost.f k2 q0 q1 l0_2 q3 q4 q5 q6 q7 q8 l1).bind fun t268 => ((unit_FixedCost.f k2 q0 q1 l0_2 q3 q4 q5 q6 q7 x8_2 l2).bind fun t269 => (some (t267 == (wrap64 (t268 + t269))))))) else (some false))) = some r := H
                        have A59 := Aside0.mk A590
                        clear A590
                        replace H := Option.bind_eq_some_iff.mp H
                        obtain ⟨t266, A600, H⟩ := H
                        replace H : (if t264 = (wrap64 (t265 + t266)) then ((unit_FixedCost.f k2 q0 q1 l0_2 q3 q4 q5 q6 q7 q8 y251).bind fun t267 => ((unit_FixedCost.f k2 q0 q1 l0_2 q3 q4 q5 q6 q7 q8 l1).bind fun t268 => ((unit_FixedCost.f k2 q0 q1 l0_2 q3 q4 q5 q6 q7 x8_2 l2).bind fun t269 => (some (t267 == (wrap64 (t268 + t269))))))) else (some false)) = some r := H
                        have A60 := Aside0.mk A600
                        clear A600
                        by_cases c61 : t264 = (wrap64 (t265 + t266))
                        · rw [if_pos c61] at H
                          have c61b0 : (t264 == (wrap64 (t265 + t266))) = true := beq_iff_eq.mpr c61
                          have c61b1 : (t264 != (wrap64 (t265 + t266))) = false := bne_eq_false_iff_eq.mpr c61
                          clear c61
                          replace H := Option.bind_eq_some_iff.mp H
                          obtain ⟨t267, A620, H⟩ := H
                          replace H : ((unit_FixedCost.f k2 q0 q1 l0_2 q3 q4 q5 q6 q7 q8 l1).bind fun t268 => ((unit_FixedCost.f k2 q0 q1 l0_2 q3 q4 q5 q6 q7 x8_2 l2).bind fun t269 => (some (t267 == (wrap64 (t268 + t269)))))) = some r := H
                          have A62 := Aside0.mk A620
                          clear A620
                          replace H := Option.bind_eq_some_iff.mp H
                          obtain ⟨t268, A630, H⟩ := H
                          replace H : ((unit_FixedCost.f k2 q0 q1 l0_2 q3 q4 q5 q6 q7 x8_2 l2).bind fun t269 => (some (t267 == (wrap64 (t268 + t269))))) = some r := H
                          have A63 := Aside0.mk A630
                          clear A630
                          replace H := Option.bind_eq_some_iff.mp H
                          obtain ⟨t269, A640, H⟩ := H
                          replace H : (some (t267 == (wrap64 (t268 + t269)))) = some r := H
                          have A64 := Aside0.mk A640
                          clear A640
                          obtain rfl := Option.some.inj H
                          have hcz65_0 : wr.cell? ⟨g239, 0, none⟩ = some (.int .i64 q0) := (blk_cell BK239.out 0).trans rfl
                          have hcz65_1 : wr.cell? ⟨g239, 1, none⟩ = some (.int .i64 q1) := (blk_cell BK239.out 1).trans rfl
                          have hcz65_2 : wr.cell? ⟨g239, 2, none⟩ = some (.slice A0_2 l0_2.length c0_2) := (blk_cell BK239.out 2).trans rfl
                          have hcz65_3 : wr.cell? ⟨g239, 3, none⟩ = some (.int .i64 q3) := (blk_cell BK239.out 3).trans rfl
                          have hcz65_4 : wr.cell? ⟨g239, 4, none⟩ = some (.int .i64 q4) := (blk_cell BK239.out 4).trans rfl
                          have hcz65_5 : wr.cell? ⟨g239, 5, none⟩ = some (.int .i64 q5) := (blk_cell BK239.out 5).trans rfl
                          have hcz65_6 : wr.cell? ⟨g239, 6, none⟩ = some (.int .i64 q6) := (blk_cell BK239.out 6).trans rfl
                          have hcz65_7 : wr.cell? ⟨g239, 7, none⟩ = some (.int .i64 q7) := (blk_cell BK239.out 7).trans rfl
                          have hcz65_8 : wr.cell? ⟨g239, 8, none⟩ = some (.int .i64 q8) := (blk_cell BK239.out 8).trans rfl
                          have hfz65_0 := blk_frozen BK239.out 0
                          have hfz65_1 := blk_frozen BK239.out 1
                          have hfz65_2 := blk_frozen BK239.out 2
                          have hfz65_3 := blk_frozen BK239.out 3
                          have hfz65_4 := blk_frozen BK239.out 4
                          have hfz65_5 := blk_frozen BK239.out 5
                          have hfz65_6 := blk_frozen BK239.out 6
                          have hfz65_7 := blk_frozen BK239.out 7
                          have hfz65_8 := blk_frozen BK239.out 8
                          try go_wp2_with (first | ((with_reducible refine gate_dst (N := 10) rfl ?_); refine box_event ?hg (N := 10) ?hd (cs := #[.int .i64 0, .int .i64 0, .slice none 0 0, .int .i64 0, .int .i64 0, .int .i64 0, .int .i64 0, .int .i64 0, .int .i64 0]) (t := 24) ?hr ?_; (case hd => rfl); (case hg => rfl); (case hr => first | (go_simp; done) | (go_simp; rfl)); intro g260 hg w66 hbox hb; have n0_ := Aside0.mk (Kd.R_below (by (with_reducible repeat (first | apply Kd.R_alloc | apply Kd.R_drewN | apply Kd.R_drew)); exact HO_7.out) hb); have n1_ := Aside0.mk (blk_below (g := g239) (o := .cells #[.int .i64 q0, .int .i64 q1, .slice A0_2 l0_2.length c0_2, .int .i64 q3, .int .i64 q4, .int .i64 q5, .int .i64 q6, .int .i64 q7, .int .i64 q8] 24 (0, 0)) (by (with_reducible repeat (first | refine blk_drewN ?_ _ | refine blk_drew ?_ | refine blk_alloc ?_ _)); exact BK239.out) hb); have n2_ := Aside0.mk (below_step (by repeat (first | (with_reducible first | exact HB.out | apply below_alloc | apply pw_below_drewN | apply below_drew1 | refine below_set ?_ GE239.out) | exact HB.out)) hb); have n3_ := Aside0.mk (hbox); have n4_ := Aside0.mk ((by rw [hg]; exact (below_size (by repeat (first | (with_reducible first | exact HB.out | apply below_alloc | apply pw_below_drewN | apply below_drew1 | refine below_set ?_ GE239.out) | exact HB.out))) : w.heap.size ≤ g260)); have n5_ := Aside0.mk ((by rw [hg]; exact (below_size (by repeat (first | (with_reducible first | exact HB.out | apply below_alloc | apply pw_below_drewN | apply below_drew1 | refine below_set ?_ GE239.out) | exact HB.out))) : w.heap.size ≤ g260)); have n6_ := Aside0.mk ((by rw [hg]; exact Nat.ne_of_lt (blk_lt (g := g239) (o := .cells #[.int .i64 q0, .int .i64 q1, .slice A0_2 l0_2.length c0_2, .int .i64 q3, .int .i64 q4, .int .i64 q5, .int .i64 q6, .int .i64 q7, .int .i64 q8] 24 (0, 0)) (by (with_reducible repeat (first | refine blk_drewN ?_ _ | refine blk_drew ?_ | refine blk_alloc ?_ _)); exact BK239.out)) : g239 ≠ g260)); have n7_ := Aside0.mk ((by rw [hg]; exact Nat.ne_of_gt (blk_lt (g := g239) (o := .cells #[.int .i64 q0, .int .i64 q1, .slice A0_2 l0_2.length c0_2, .int .i64 q3, .int .i64 q4, .int .i64 q5, .int .i64 q6, .int .i64 q7, .int .i64 q8] 24 (0, 0)) (by (with_reducible repeat (first | refine blk_drewN ?_ _ | refine blk_drew ?_ | refine blk_alloc ?_ _)); exact BK239.out)) : g260 ≠ g239)); clear HO_7; clear BK239; clear HB; have HO_7 := n0_; have BK239 := n1_; have HB := n2_; have BK260 := n3_; have GW260 := n4_; have GE260 := n5_; have NB239_260 := n6_; have NB260_239 := n7_; clear n0_ n1_ n2_ n3_ n4_ n5_ n6_ n7_; clear hb hbox hg; have hnb67 := NB260_239.out; have hnc67 := NB239_260.out; have hcz68_0 : w66.cell? ⟨g260, 0, none⟩ = some (.int .i64 0) := (blk_cell BK260.out 0).trans rfl; have hcz68_1 : w66.cell? ⟨g260, 1, none⟩ = some (.int .i64 0) := (blk_cell BK260.out 1).trans rfl; have hcz68_2 : w66.cell? ⟨g260, 2, none⟩ = some (.slice none 0 0) := (blk_cell BK260.out 2).trans rfl; have hcz68_3 : w66.cell? ⟨g260, 3, none⟩ = some (.int .i64 0) := (blk_cell BK260.out 3).trans rfl; have hcz68_4 : w66.cell? ⟨g260, 4, none⟩ = some (.int .i64 0) := (blk_cell BK260.out 4).trans rfl; have hcz68_5 : w66.cell? ⟨g260, 5, none⟩ = some (.int .i64 0) := (blk_cell BK260.out 5).trans rfl; have hcz68_6 : w66.cell? ⟨g260, 6, none⟩ = some (.int .i64 0) := (blk_cell BK260.out 6).trans rfl; have hcz68_7 : w66.cell? ⟨g260, 7, none⟩ = some (.int .i64 0) := (blk_cell BK260.out 7).trans rfl; have hcz68_8 : w66.cell? ⟨g260, 8, none⟩ = some (.int .i64 0) := (blk_cell BK260.out 8).trans rfl; have hfz68_0 := blk_frozen BK260.out 0; have hfz68_1 := blk_frozen BK260.out 1; have hfz68_2 := blk_frozen BK260.out 2; have hfz68_3 := blk_frozen BK260.out 3; have hfz68_4 := blk_frozen BK260.out 4; have hfz68_5 := blk_frozen BK260.out 5; have hfz68_6 := blk_frozen BK260.out 6; have hfz68_7 := blk_frozen BK260.out 7; have hfz68_8 := blk_frozen BK260.out 8))
                          have n0_ : Aside0 (Kd.R Kd.bool 4 ((((((((((w66.setCell ⟨g260, 0, none⟩ (.int .i64 q0)).setCell ⟨g260, 1, none⟩ (.int .i64 q1)).setCell ⟨g260, 2, none⟩ (.slice A0_2 l0_2.length c0_2)).setCell ⟨g260, 3, none⟩ (.int .i64 q3)).setCell ⟨g260, 4, none⟩ (.int .i64 q4)).setCell ⟨g260, 5, none⟩ (.int .i64 q5)).setCell ⟨g260, 6, none⟩ (.int .i64 q6)).setCell ⟨g260, 7, none⟩ (.int .i64 q7)).setCell ⟨g260, 8, none⟩ (.int .i64 q8)).setCell ⟨g260, 8, none⟩ (.int .i64 x8_2)) w.heap.size (fun _ => True) v252 y251) := ⟨by (with_reducible repeat (first | apply Kd.R_alloc | apply Kd.R_drewN | apply Kd.R_drew)); exact Kd.R_mono (Kd.R_far (p := ⟨g260, 8, none⟩) (Kd.R_far (p := ⟨g260, 8, none⟩) (Kd.R_far (p := ⟨g260, 7, none⟩) (Kd.R_far (p := ⟨g260, 6, none⟩) (Kd.R_far (p := ⟨g260, 5, none⟩) (Kd.R_far (p := ⟨g260, 4, none⟩) (Kd.R_far (p := ⟨g260, 3, none⟩) (Kd.R_far (p := ⟨g260, 2, none⟩) (Kd.R_far (p := ⟨g260, 1, none⟩) (Kd.R_far (p := ⟨g260, 0, none⟩) (Kd.R_types HO_7.out BK260.out (by decide)) (fun _ hk => hk.2) (.int .i64 q0)) (fun _ hk => hk.2) (.int .i64 q1)) (fun _ hk => hk.2) (.slice A0_2 l0_2.length c0_2)) (fun _ hk => hk.2) (.int .i64 q3)) (fun _ hk => hk.2) (.int .i64 q4)) (fun _ hk => hk.2) (.int .i64 q5)) (fun _ hk => hk.2) (.int .i64 q6)) (fun _ hk => hk.2) (.int .i64 q7)) (fun _ hk => hk.2) (.int .i64 q8)) (fun _ hk => hk.2) (.int .i64 x8_2)) (fun _ hk => trivial)⟩
                          have n1_ : Aside0 (((((((((((w66.setCell ⟨g260, 0, none⟩ (.int .i64 q0)).setCell ⟨g260, 1, none⟩ (.int .i64 q1)).setCell ⟨g260, 2, none⟩ (.slice A0_2 l0_2.length c0_2)).setCell ⟨g260, 3, none⟩ (.int .i64 q3)).setCell ⟨g260, 4, none⟩ (.int .i64 q4)).setCell ⟨g260, 5, none⟩ (.int .i64 q5)).setCell ⟨g260, 6, none⟩ (.int .i64 q6)).setCell ⟨g260, 7, none⟩ (.int .i64 q7)).setCell ⟨g260, 8, none⟩ (.int .i64 q8)).setCell ⟨g260, 8, none⟩ (.int .i64 x8_2)).heap[g239]? = some (.cells #[.int .i64 q0, .int .i64 q1, .slice A0_2 l0_2.length c0_2, .int .i64 q3, .int .i64 q4, .int .i64 q5, .int .i64 q6, .int .i64 q7, .int .i64 q8] 24 (0, 0))) := ⟨by (with_reducible repeat (first | refine blk_drewN ?_ _ | refine blk_drew ?_ | refine blk_alloc ?_ _)); refine blk_far ?_ NB239_260.out _; (with_reducible repeat (first | refine blk_drewN ?_ _ | refine blk_drew ?_ | refine blk_alloc ?_ _)); refine blk_far ?_ NB239_260.out _; (with_reducible repeat (first | refine blk_drewN ?_ _ | refine blk_drew ?_ | refine blk_alloc ?_ _)); refine blk_far ?_ NB239_260.out _; (with_reducible repeat (first | refine blk_drewN ?_ _ | refine blk_drew ?_ | refine blk_alloc ?_ _)); refine blk_far ?_ NB239_260.out _; (with_reducible repeat (first | refine blk_drewN ?_ _ | refine blk_drew ?_ | refine blk_alloc ?_ _)); refine blk_far ?_ NB239_260.out _; (with_reducible repeat (first | refine blk_drewN ?_ _ | refine blk_drew ?_ | refine blk_alloc ?_ _)); refine blk_far ?_ NB239_260.out _; (with_reducible repeat (first | refine blk_drewN ?_ _ | refine blk_drew ?_ | refine blk_alloc ?_ _)); refine blk_far ?_ NB239_260.out _; (with_reducible repeat (first | refine blk_drewN ?_ _ | refine blk_drew ?_ | refine blk_alloc ?_ _)); refine blk_far ?_ NB239_260.out _; (with_reducible repeat (first | refine blk_drewN ?_ _ | refine blk_drew ?_ | refine blk_alloc ?_ _)); refine blk_far ?_ NB239_260.out _; (with_reducible repeat (first | refine blk_drewN ?_ _ | refine blk_drew ?_ | refine blk_alloc ?_ _)); refine blk_far ?_ NB239_260.out _; (with_reducible repeat (first | refine blk_drewN ?_ _ | refine blk_drew ?_ | refine blk_alloc ?_ _)); exact BK239.out⟩
                          have n2_ : Aside0 (((((((((((w66.setCell ⟨g260, 0, none⟩ (.int .i64 q0)).setCell ⟨g260, 1, none⟩ (.int .i64 q1)).setCell ⟨g260, 2, none⟩ (.slice A0_2 l0_2.length c0_2)).setCell ⟨g260, 3, none⟩ (.int .i64 q3)).setCell ⟨g260, 4, none⟩ (.int .i64 q4)).setCell ⟨g260, 5, none⟩ (.int .i64 q5)).setCell ⟨g260, 6, none⟩ (.int .i64 q6)).setCell ⟨g260, 7, none⟩ (.int .i64 q7)).setCell ⟨g260, 8, none⟩ (.int .i64 q8)).setCell ⟨g260, 8, none⟩ (.int .i64 x8_2)).heap[g260]? = some (.cells #[.int .i64 q0, .int .i64 q1, .slice A0_2 l0_2.length c0_2, .int .i64 q3, .int .i64 q4, .int .i64 q5, .int .i64 q6, .int .i64 q7, .int .i64 x8_2] 24 (0, 0))) := ⟨by (with_reducible repeat (first | refine blk_drewN ?_ _ | refine blk_drew ?_ | refine blk_alloc ?_ _)); refine blk_put (cs := #[.int .i64 q0, .int .i64 q1, .slice A0_2 l0_2.length c0_2, .int .i64 q3, .int .i64 q4, .int .i64 q5, .int .i64 q6, .int .i64 q7, .int .i64 q8]) ?_ 8 _ rfl; (with_reducible repeat (first | refine blk_drewN ?_ _ | refine blk_drew ?_ | refine blk_alloc ?_ _)); refine blk_put (cs := #[.int .i64 q0, .int .i64 q1, .slice A0_2 l0_2.length c0_2, .int .i64 q3, .int .i64 q4, .int .i64 q5, .int .i64 q6, .int .i64 q7, .int .i64 0]) ?_ 8 _ rfl; (with_reducible repeat (first | refine blk_drewN ?_ _ | refine blk_drew ?_ | refine blk_alloc ?_ _)); refine blk_put (cs := #[.int .i64 q0, .int .i64 q1, .slice A0_2 l0_2.length c0_2, .int .i64 q3, .int .i64 q4, .int .i64 q5, .int .i64 q6, .int .i64 0, .int .i64 0]) ?_ 7 _ rfl; (with_reducible repeat (first | refine blk_drewN ?_ _ | refine blk_drew ?_ | refine blk_alloc ?_ _)); refine blk_put (cs := #[.int .i64 q0, .int .i64 q1, .slice A0_2 l0_2.length c0_2, .int .i64 q3, .int .i64 q4, .int .i64 q5, .int .i64 0, .int .i64 0, .int .i64 0]) ?_ 6 _ rfl; (with_reducible repeat (first | refine blk_drewN ?_ _ | refine blk_drew ?_ | refine blk_alloc ?_ _)); refine blk_put (cs := #[.int .i64 q0, .int .i64 q1, .slice A0_2 l0_2.length c0_2, .int .i64 q3, .int .i64 q4, .int .i64 0, .int .i64 0, .int .i64 0, .int .i64 0]) ?_ 5 _ rfl; (with_reducible repeat (first | refine blk_drewN ?_ _ | refine blk_drew ?_ | refine blk_alloc ?_ _)); refine blk_put (cs := #[.int .i64 q0, .int .i64 q1, .slice A0_2 l0_2.length c0_2, .int .i64 q3, .int .i64 0, .int .i64 0, .int .i64 0, .int .i64 0, .int .i64 0]) ?_ 4 _ rfl; (with_reducible repeat (first | refine blk_drewN ?_ _ | refine blk_drew ?_ | refine blk_alloc ?_ _)); refine blk_put (cs := #[.int .i64 q0, .int .i64 q1, .slice A0_2 l0_2.length c0_2, .int .i64 0, .int .i64 0, .int .i64 0, .int .i64 0, .int .i64 0, .int .i64 0]) ?_ 3 _ rfl; (with_reducible repeat (first | refine blk_drewN ?_ _ | refine blk_drew ?_ | refine blk_alloc ?_ _)); refine blk_put (cs := #[.int .i64 q0, .int .i64 q1, .slice none 0 0, .int .i64 0, .int .i64 0, .int .i64 0, .int .i64 0, .int .i64 0, .int .i64 0]) ?_ 2 _ rfl; (with_reducible repeat (first | refine blk_drewN ?_ _ | refine blk_drew ?_ | refine blk_alloc ?_ _)); refine blk_put (cs := #[.int .i64 q0, .int .i64 0, .slice none 0 0, .int .i64 0, .int .i64 0, .int .i64 0, .int .i64 0, .int .i64 0, .int .i64 0]) ?_ 1 _ rfl; (with_reducible repeat (first | refine blk_drewN ?_ _ | refine blk_drew ?_ | refine blk_alloc ?_ _)); refine blk_put (cs := #[.int .i64 0, .int .i64 0, .slice none 0 0, .int .i64 0, .int .i64 0, .int .i64 0, .int .i64 0, .int .i64 0, .int .i64 0]) ?_ 0 _ rfl; (with_reducible repeat (first | refine blk_drewN ?_ _ | refine blk_drew ?_ | refine blk_alloc ?_ _)); exact BK260.out⟩
                          have n3_ : Aside0 (Below w.heap.size w ((((((((((w66.setCell ⟨g260, 0, none⟩ (.int .i64 q0)).setCell ⟨g260, 1, none⟩ (.int .i64 q1)).setCell ⟨g260, 2, none⟩ (.slice A0_2 l0_2.length c0_2)).setCell ⟨g260, 3, none⟩ (.int .i64 q3)).setCell ⟨g260, 4, none⟩ (.int .i64 q4)).setCell ⟨g260, 5, none⟩ (.int .i64 q5)).setCell ⟨g260, 6, none⟩ (.int .i64 q6)).setCell ⟨g260, 7, none⟩ (.int .i64 q7)).setCell ⟨g260, 8, none⟩ (.int .i64 q8)).setCell ⟨g260, 8, none⟩ (.int .i64 x8_2))) := ⟨by repeat (first | (with_reducible first | exact HB.out | apply below_alloc | apply pw_below_drewN | apply below_drew1 | refine below_set ?_ GE239.out | refine below_set ?_ GE260.out) | exact HB.out)⟩
                          (try clear HO_7)
                          (try clear BK239)
                          (try clear BK260)
                          (try clear HB)
                          generalize ((((((((((w66.setCell ⟨g260, 0, none⟩ (.int .i64 q0)).setCell ⟨g260, 1, none⟩ (.int .i64 q1)).setCell ⟨g260, 2, none⟩ (.slice A0_2 l0_2.length c0_2)).setCell ⟨g260, 3, none⟩ (.int .i64 q3)).setCell ⟨g260, 4, none⟩ (.int .i64 q4)).setCell ⟨g260, 5, none⟩ (.int .i64 q5)).setCell ⟨g260, 6, none⟩ (.int .i64 q6)).setCell ⟨g260, 7, none⟩ (.int .i64 q7)).setCell ⟨g260, 8, none⟩ (.int .i64 q8)).setCell ⟨g260, 8, none⟩ (.int .i64 x8_2)) = w69 at n0_ n1_ n2_ n3_ ⊢
                          have HO_7 := n0_
                          have BK239 := n1_
                          have BK260 := n2_
                          have HB := n3_
                          clear n0_ n1_ n2_ n3_
                          have n0_ := Aside0.mk (Kd.R_drew HO_7.out)
                          have n1_ := Aside0.mk (blk_drew BK239.out)
                          have n2_ := Aside0.mk (blk_drew BK260.out)
                          have n3_ := Aside0.mk (below_drew1 HB.out)
                          clear HO_7
                          clear BK239
                          clear BK260
                          clear HB
                          have HO_7 := n0_
                          have BK239 := n1_
                          have BK260 := n2_
                          have HB := n3_
                          clear n0_ n1_ n2_ n3_
                          refine start_ (n := 38) (S := fun w' => w'.cell? ⟨g260, 0, none⟩ = some (.int .i64 q0) ∧ w'.cell? ⟨g260, 1, none⟩ = some (.int .i64 q1) ∧ w'.cell? ⟨g260, 2, none⟩ = some (.slice A0_2 l0_2.length c0_2) ∧ w'.cell? ⟨g260, 3, none⟩ = some (.int .i64 q3) ∧ w'.cell? ⟨g260, 4, none⟩ = some (.int .i64 q4) ∧ w'.cell? ⟨g260, 5, none⟩ = some (.int .i64 q5) ∧ w'.cell? ⟨g260, 6, none⟩ = some (.int .i64 q6) ∧ w'.cell? ⟨g260, 7, none⟩ = some (.int .i64 q7) ∧ w'.cell? ⟨g260, 8, none⟩ = some (.int .i64 x8_2) ∧ w'.cell? ⟨g239, 0, none⟩ = some (.int .i64 q0) ∧ w'.cell? ⟨g239, 1, none⟩ = some (.int .i64 q1) ∧ w'.cell? ⟨g239, 2, none⟩ = some (.slice A0_2 l0_2.length c0_2) ∧ w'.cell? ⟨g239, 3, none⟩ = some (.int .i64 q3) ∧ w'.cell? ⟨g239, 4, none⟩ = some (.int .i64 q4) ∧ w'.cell? ⟨g239, 5, none⟩ = some (.int .i64 q5) ∧ w'.cell? ⟨g239, 6, none⟩ = some (.int .i64 q6) ∧ w'.cell? ⟨g239, 7, none⟩ = some (.int .i64 q7) ∧ w'.cell? ⟨g239, 8, none⟩ = some (.int .i64 q8)) (ds := []) (pbn 38 38) (by kernel_rfl) rfl rfl ⟨(blk_cell BK260.out 0).trans rfl, (blk_cell BK260.out 1).trans rfl, (blk_cell BK260.out 2).trans rfl, (blk_cell BK260.out 3).trans rfl, (blk_cell BK260.out 4).trans rfl, (blk_cell BK260.out 5).trans rfl, (blk_cell BK260.out 6).trans rfl, (blk_cell BK260.out 7).trans rfl, (blk_cell BK260.out 8).trans rfl, (blk_cell BK239.out 0).trans rfl, (blk_cell BK239.out 1).trans rfl, (blk_cell BK239.out 2).trans rfl, (blk_cell BK239.out 3).trans rfl, (blk_cell BK239.out 4).trans rfl, (blk_cell BK239.out 5).trans rfl, (blk_cell BK239.out 6).trans rfl, (blk_cell BK239.out 7).trans rfl, (blk_cell BK239.out 8).trans rfl⟩ (fun hHeld => ?_); refine with_tabW pylonlaw26_UnitConcatenation.tab13 pylonlaw26_UnitConcatenation.bits13 (fun HT_ HW_ => ?_)
                          generalize w69.drew = w70 at HO_7 BK239 BK260 HB hHeld ⊢
                          (refine takeAt (n := 38) (v := ?_) (a' := ?_) rfl rfl rfl (take_ofW HT_.out HW_.out (by kernel_rfl)) (fun _ _ _ h => h) (Or.inl ⟨by rfl, ?_⟩) hHeld ?_ ?_; rotate_left; (focus (rintro w' ⟨s0, s1, s2, s3, s4, s5, s6, s7, s8, s9, s10, s11, s12, s13, s14, s15, s16, s17⟩; go_simp; with_reducible rfl)); rotate_left; (focus (simp only [Act.put, List.setIfInBounds_toArray, List.set_cons_zero, List.set_cons_succ, i64_w, i32_w]; rfl)))
                          refine one_ (i := 1) (N := some 64) (pbn 38 36) rfl rfl (one_of HT_.out (by kernel_rfl)) (by decide) (fun K hK => ?_)
                          refine goes_ Try.func21 (by kernel_rfl) rfl #[.agg #[.int .i64 q0, .int .i64 q1, .slice A0_2 l0_2.length c0_2, .int .i64 q3, .int .i64 q4, .int .i64 q5, .int .i64 q6, .int .i64 q7, .int .i64 x8_2]] (by rfl) rfl rfl (by (try simp only [List.map_toArray, List.map_cons, List.map_nil]); first | done | rfl | (simp only [List.length_drop, List.length_take]; rfl)) ?_
                          with_reducible refine (pylonlaw26_may.calls k2 q0 q1 _ _ l0_2 q3 q4 q5 q6 q7 x8_2 true _ ?side1 ?side2 A53.out).mono ?_
                          (case side1 => repeat (first | exact (Kd.C_below HR0_2.out HB.out) | (with_reducible refine Kd.C_alloc ?_ _) | (with_reducible refine Kd.C_drewN ?_ _) | (with_reducible refine Kd.C_drew ?_)))
                          (case side2 => exact HC0_2.out)
                          rintro e w71 ⟨rfl, hb⟩
                          refine ⟨_, rfl, ?_⟩
                          have n0_ := Aside0.mk (Kd.R_below (by (with_reducible repeat (first | apply Kd.R_alloc | apply Kd.R_drewN | apply Kd.R_drew)); exact HO_7.out) hb)
                          have n1_ := Aside0.mk (blk_below (g := g239) (o := .cells #[.int .i64 q0, .int .i64 q1, .slice A0_2 l0_2.length c0_2, .int .i64 q3, .int .i64 q4, .int .i64 q5, .int .i64 q6, .int .i64 q7, .int .i64 q8] 24 (0, 0)) (by (with_reducible repeat (first | refine blk_drewN ?_ _ | refine blk_drew ?_ | refine blk_alloc ?_ _)); exact BK239.out) hb)
                          have n2_ := Aside0.mk (blk_below (g := g260) (o := .cells #[.int .i64 q0, .int .i64 q1, .slice A0_2 l0_2.length c0_2, .int .i64 q3, .int .i64 q4, .int .i64 q5, .int .i64 q6, .int .i64 q7, .int .i64 x8_2] 24 (0, 0)) (by (with_reducible repeat (first | refine blk_drewN ?_ _ | refine blk_drew ?_ | refine blk_alloc ?_ _)); exact BK260.out) hb)
                          have n3_ := Aside0.mk (below_step (by repeat (first | (with_reducible first | exact HB.out | apply below_alloc | apply pw_below_drewN | apply below_drew1 | refine below_set ?_ GE239.out | refine below_set ?_ GE260.out) | exact HB.out)) hb)
                          clear HO_7
                          clear BK239
                          clear BK260
                          clear HB
                          have HO_7 := n0_
                          have BK239 := n1_
                          have BK260 := n2_
                          have HB := n3_
                          clear n0_ n1_ n2_ n3_
                          (try clear hb)
                          (try clear hb2)
                          (try clear hk)
                          (try clear hi)
                          obtain ⟨Ao72, co72, eo72⟩ := Kd.R_slice HO_7.out
                          (first | subst eo72 | (injection eo72 with f1_ f2_ f3_; have f4_ := f1_.symm; have f5_ := f3_.symm; clear f1_ f2_ f3_; subst f4_; subst f5_))
                          refine hK.out _ _ ⟨(blk_cell BK260.out 0).trans rfl, (blk_cell BK260.out 1).trans rfl, (blk_cell BK260.out 2).trans rfl, (blk_cell BK260.out 3).trans rfl, (blk_cell BK260.out 4).trans rfl, (blk_cell BK260.out 5).trans rfl, (blk_cell BK260.out 6).trans rfl, (blk_cell BK260.out 7).trans rfl, (blk_cell BK260.out 8).trans rfl, (blk_cell BK239.out 0).trans rfl, (blk_cell BK239.out 1).trans rfl, (blk_cell BK239.out 2).trans rfl, (blk_cell BK239.out 3).trans rfl, (blk_cell BK239.out 4).trans rfl, (blk_cell BK239.out 5).trans rfl, (blk_cell BK239.out 6).trans rfl, (blk_cell BK239.out 7).trans rfl, (blk_cell BK239.out 8).trans rfl⟩ (fun hHeld => ?_)
                          clear hK K
                          refine norm_ (a' := ?_) ?_ ?_
                          rotate_left
                          · show Act.put _ (some 64) _ = _
                            simp only [Act.put, List.setIfInBounds_toArray, List.set_cons_zero, List.set_cons_succ, i64_w, i32_w]
                            rfl
                          (refine pureAt (n := 38) (v := ?_) (a' := ?_) rfl rfl rfl (any_of HT_.out (by kernel_rfl)) (fun _ _ _ h => h) (Or.inl ⟨by rfl, ?_⟩) ?_ ?_; rotate_left; (focus (intro w'; go_simp; with_reducible rfl)); rotate_left; (focus (simp only [Act.put, List.setIfInBounds_toArray, List.set_cons_zero, List.set_cons_succ, i64_w, i32_w]; rfl)))
                          refine pure_ (i := 4) (N := some 67) (v := ?_) (a' := ?_) #[true, true, true, false, true, false, false, false, false, false, false, false, false, false, false, false, false, false, false, false, false, false, false, false, false, false, false, false, false, false, false, false, false, false, false, false, false, false] rfl rfl (any_of HT_.out (by kernel_rfl)) (fun _ _ _ h => h) (Or.inl ⟨by rfl, ?_⟩) ?_ ?_
                          rotate_left
                          · intro w'
                            go_simp
                            with_reducible rfl
                          rotate_left
                          · simp only [Act.put, List.setIfInBounds_toArray, List.set_cons_zero, List.set_cons_succ, i64_w, i32_w]
                            rfl
                          refine pure_ (i := 7) (N := some 70) (v := ?_) (a' := ?_) #[true, true, true, false, true, false, false, true, false, false, false, false, false, false, false, false, false, false, false, false, false, false, false, false, false, false, false, false, false, false, false, false, false, false, false, false, false, false] rfl rfl (any_of HT_.out (by kernel_rfl)) (fun _ _ _ h => h) (Or.inl ⟨by rfl, ?_⟩) ?_ ?_
                          rotate_left
                          · intro w'
                            go_simp
                            with_reducible rfl
                          rotate_left
                          · simp only [Act.put, List.setIfInBounds_toArray, List.set_cons_zero, List.set_cons_succ, i64_w, i32_w]
                            rfl
                          refine take_ (i := 3) (N := some 66) (v := ?_) (a' := ?_) #[true, true, true, true, true, false, false, true, false, false, false, false, false, false, false, false, false, false, false, false, false, false, false, false, false, false, false, false, false, false, false, false, false, false, false, false, false, false] rfl rfl (take_ofW HT_.out HW_.out (by kernel_rfl)) (fun _ _ _ h => h) (Or.inl ⟨by rfl, ?_⟩) hHeld ?_ ?_
                          rotate_left
                          · rintro w' ⟨s0, s1, s2, s3, s4, s5, s6, s7, s8, s9, s10, s11, s12, s13, s14, s15, s16, s17⟩
                            go_simp
                            with_reducible rfl
                          rotate_left
                          · simp only [Act.put, List.setIfInBounds_toArray, List.set_cons_zero, List.set_cons_succ, i64_w, i32_w]
                            rfl
                          refine take_ (i := 6) (N := some 69) (v := ?_) (a' := ?_) #[true, true, true, true, true, false, true, true, false, false, false, false, false, false, false, false, false, false, false, false, false, false, false, false, false, false, false, false, false, false, false, false, false, false, false, false, false, false] rfl rfl (take_ofW HT_.out HW_.out (by kernel_rfl)) (fun _ _ _ h => h) (Or.inl ⟨by rfl, ?_⟩) hHeld ?_ ?_
                          rotate_left
                          · rintro w' ⟨s0, s1, s2, s3, s4, s5, s6, s7, s8, s9, s10, s11, s12, s13, s14, s15, s16, s17⟩
                            go_simp
                            with_reducible rfl
                          rotate_left
                          · simp only [Act.put, List.setIfInBounds_toArray, List.set_cons_zero, List.set_cons_succ, i64_w, i32_w]
                            rfl
                          refine one_ (i := 5) (N := some 68) (pbn 38 30) rfl rfl (one_of HT_.out (by kernel_rfl)) (by decide) (fun K hK => ?_)
                          refine goes_ Try.func22 (by kernel_rfl) rfl #[.agg #[.int .i64 q0, .int .i64 q1, .slice A0_2 l0_2.length c0_2, .int .i64 q3, .int .i64 q4, .int .i64 q5, .int .i64 q6, .int .i64 q7, .int .i64 q8], .slice Ao72 y251.length co72] (by rfl) rfl rfl (by (try simp only [List.map_toArray, List.map_cons, List.map_nil]); first | done | rfl | (simp only [List.length_drop, List.length_take]; rfl)) ?_
                          with_reducible refine (unit_Feasible.calls k2 q0 q1 _ _ l0_2 q3 q4 q5 q6 q7 q8 _ _ y251 t262 _ ?side1 ?side2 ?side3 ?side4 A55.out).mono ?_
                          (case side1 => repeat (first | exact (Kd.C_below HR0_2.out HB.out) | (with_reducible refine Kd.C_alloc ?_ _) | (with_reducible refine Kd.C_drewN ?_ _) | (with_reducible refine Kd.C_drew ?_)))
                          (case side2 => exact HC0_2.out)
                          (case side3 => repeat (first | exact (Kd.R_reads' HO_7.out).2.2 | (with_reducible refine Kd.C_alloc ?_ _) | (with_reducible refine Kd.C_drewN ?_ _) | (with_reducible refine Kd.C_drew ?_)))
                          (case side4 => exact (Kd.R_reads' HO_7.out).2.1)
                          rintro e w73 ⟨rfl, hb⟩
                          refine ⟨_, rfl, ?_⟩
                          have n0_ := Aside0.mk (Kd.R_below (by (with_reducible repeat (first | apply Kd.R_alloc | apply Kd.R_drewN | apply Kd.R_drew)); exact HO_7.out) hb)
                          have n1_ := Aside0.mk (blk_below (g := g239) (o := .cells #[.int .i64 q0, .int .i64 q1, .slice A0_2 l0_2.length c0_2, .int .i64 q3, .int .i64 q4, .int .i64 q5, .int .i64 q6, .int .i64 q7, .int .i64 q8] 24 (0, 0)) (by (with_reducible repeat (first | refine blk_drewN ?_ _ | refine blk_drew ?_ | refine blk_alloc ?_ _)); exact BK239.out) hb)
                          have n2_ := Aside0.mk (blk_below (g := g260) (o := .cells #[.int .i64 q0, .int .i64 q1, .slice A0_2 l0_2.length c0_2, .int .i64 q3, .int .i64 q4, .int .i64 q5, .int .i64 q6, .int .i64 q7, .int .i64 x8_2] 24 (0, 0)) (by (with_reducible repeat (first | refine blk_drewN ?_ _ | refine blk_drew ?_ | refine blk_alloc ?_ _)); exact BK260.out) hb)
                          have n3_ := Aside0.mk (below_step (by repeat (first | (with_reducible first | exact HB.out | apply below_alloc | apply pw_below_drewN | apply below_drew1 | refine below_set ?_ GE239.out | refine below_set ?_ GE260.out) | exact HB.out)) hb)
                          clear HO_7
                          clear BK239
                          clear BK260
                          clear HB
                          have HO_7 := n0_
                          have BK239 := n1_
                          have BK260 := n2_
                          have HB := n3_
                          clear n0_ n1_ n2_ n3_
                          (try clear hb)
                          (try clear hb2)
                          (try clear hk)
                          (try clear hi)
                          refine hK.out _ _ ⟨(blk_cell BK260.out 0).trans rfl, (blk_cell BK260.out 1).trans rfl, (blk_cell BK260.out 2).trans rfl, (blk_cell BK260.out 3).trans rfl, (blk_cell BK260.out 4).trans rfl, (blk_cell BK260.out 5).trans rfl, (blk_cell BK260.out 6).trans rfl, (blk_cell BK260.out 7).trans rfl, (blk_cell BK260.out 8).trans rfl, (blk_cell BK239.out 0).trans rfl, (blk_cell BK239.out 1).trans rfl, (blk_cell BK239.out 2).trans rfl, (blk_cell BK239.out 3).trans rfl, (blk_cell BK239.out 4).trans rfl, (blk_cell BK239.out 5).trans rfl, (blk_cell BK239.out 6).trans rfl, (blk_cell BK239.out 7).trans rfl, (blk_cell BK239.out 8).trans rfl⟩ (fun hHeld => ?_)
                          clear hK K
                          refine norm_ (a' := ?_) ?_ ?_
                          rotate_left
                          · show Act.put _ (some 68) _ = _
                            simp only [Act.put, List.setIfInBounds_toArray, List.set_cons_zero, List.set_cons_succ, i64_w, i32_w]
                            rfl
                          refine one_ (i := 8) (N := some 71) (pbn 38 29) rfl rfl (one_of HT_.out (by kernel_rfl)) (by decide) (fun K hK => ?_)
                          refine goes_ Try.func22 (by kernel_rfl) rfl #[.agg #[.int .i64 q0, .int .i64 q1, .slice A0_2 l0_2.length c0_2, .int .i64 q3, .int .i64 q4, .int .i64 q5, .int .i64 q6, .int .i64 q7, .int .i64 x8_2], .slice A2 l2.length c2] (by rfl) rfl rfl (by (try simp only [List.map_toArray, List.map_cons, List.map_nil]); first | done | rfl | (simp only [List.length_drop, List.length_take]; rfl)) ?_
                          with_reducible refine (unit_Feasible.calls k2 q0 q1 _ _ l0_2 q3 q4 q5 q6 q7 x8_2 _ _ l2 t263 _ ?side1 ?side2 ?side3 ?side4 A56.out).mono ?_
                          (case side1 => repeat (first | exact (Kd.C_below HR0_2.out HB.out) | (with_reducible refine Kd.C_alloc ?_ _) | (with_reducible refine Kd.C_drewN ?_ _) | (with_reducible refine Kd.C_drew ?_)))
                          (case side2 => exact HC0_2.out)
                          (case side3 => repeat (first | exact (Kd.C_below HR2.out HB.out) | (with_reducible refine Kd.C_alloc ?_ _) | (with_reducible refine Kd.C_drewN ?_ _) | (with_reducible refine Kd.C_drew ?_)))
                          (case side4 => exact HC2.out)
                          rintro e w74 ⟨rfl, hb⟩
                          refine ⟨_, rfl, ?_⟩
                          have n0_ := Aside0.mk (Kd.R_below (by (with_reducible repeat (first | apply Kd.R_alloc | apply Kd.R_drewN | apply Kd.R_drew)); exact HO_7.out) hb)
                          have n1_ := Aside0.mk (blk_below (g := g239) (o := .cells #[.int .i64 q0, .int .i64 q1, .slice A0_2 l0_2.length c0_2, .int .i64 q3, .int .i64 q4, .int .i64 q5, .int .i64 q6, .int .i64 q7, .int .i64 q8] 24 (0, 0)) (by (with_reducible repeat (first | refine blk_drewN ?_ _ | refine blk_drew ?_ | refine blk_alloc ?_ _)); exact BK239.out) hb)
                          have n2_ := Aside0.mk (blk_below (g := g260) (o := .cells #[.int .i64 q0, .int .i64 q1, .slice A0_2 l0_2.length c0_2, .int .i64 q3, .int .i64 q4, .int .i64 q5, .int .i64 q6, .int .i64 q7, .int .i64 x8_2] 24 (0, 0)) (by (with_reducible repeat (first | refine blk_drewN ?_ _ | refine blk_drew ?_ | refine blk_alloc ?_ _)); exact BK260.out) hb)
                          have n3_ := Aside0.mk (below_step (by repeat (first | (with_reducible first | exact HB.out | apply below_alloc | apply pw_below_drewN | apply below_drew1 | refine below_set ?_ GE239.out | refine below_set ?_ GE260.out) | exact HB.out)) hb)
                          clear HO_7
                          clear BK239
                          clear BK260
                          clear HB
                          have HO_7 := n0_
                          have BK239 := n1_
                          have BK260 := n2_
                          have HB := n3_
                          clear n0_ n1_ n2_ n3_
                          (try clear hb)
                          (try clear hb2)
                          (try clear hk)
                          (try clear hi)
                          refine hK.out _ _ ⟨(blk_cell BK260.out 0).trans rfl, (blk_cell BK260.out 1).trans rfl, (blk_cell BK260.out 2).trans rfl, (blk_cell BK260.out 3).trans rfl, (blk_cell BK260.out 4).trans rfl, (blk_cell BK260.out 5).trans rfl, (blk_cell BK260.out 6).trans rfl, (blk_cell BK260.out 7).trans rfl, (blk_cell BK260.out 8).trans rfl, (blk_cell BK239.out 0).trans rfl, (blk_cell BK239.out 1).trans rfl, (blk_cell BK239.out 2).trans rfl, (blk_cell BK239.out 3).trans rfl, (blk_cell BK239.out 4).trans rfl, (blk_cell BK239.out 5).trans rfl, (blk_cell BK239.out 6).trans rfl, (blk_cell BK239.out 7).trans rfl, (blk_cell BK239.out 8).trans rfl⟩ (fun hHeld => ?_)
                          clear hK K
                          refine norm_ (a' := ?_) ?_ ?_
                          rotate_left
                          · show Act.put _ (some 71) _ = _
                            simp only [Act.put, List.setIfInBounds_toArray, List.set_cons_zero, List.set_cons_succ, i64_w, i32_w]
                            rfl
                          iterate 3 ((refine pureAt (n := 38) (v := ?_) (a' := ?_) rfl rfl rfl (any_of HT_.out (by kernel_rfl)) (fun _ _ _ h => h) (Or.inl ⟨by rfl, ?_⟩) ?_ ?_; rotate_left; (focus (intro w'; go_simp; with_reducible rfl)); rotate_left; (focus (simp only [Act.put, List.setIfInBounds_toArray, List.set_cons_zero, List.set_cons_succ, i64_w, i32_w]; rfl))))
                          refine pure_ (i := 13) (N := some 76) (v := ?_) (a' := ?_) #[true, true, true, true, true, true, true, true, true, true, true, true, false, true, false, false, false, false, false, false, false, false, false, false, false, false, false, false, false, false, false, false, false, false, false, false, false, false] rfl rfl (any_of HT_.out (by kernel_rfl)) (fun _ _ _ h => h) (Or.inl ⟨by rfl, ?_⟩) ?_ ?_
                          rotate_left
                          · intro w'
                            go_simp
                            with_reducible rfl
                          rotate_left
                          · simp only [Act.put, List.setIfInBounds_toArray, List.set_cons_zero, List.set_cons_succ, i64_w, i32_w]
                            rfl
                          refine pure_ (i := 16) (N := some 79) (v := ?_) (a' := ?_) #[true, true, true, true, true, true, true, true, true, true, true, true, false, true, false, false, true, false, false, false, false, false, false, false, false, false, false, false, false, false, false, false, false, false, false, false, false, false] rfl rfl (any_of HT_.out (by kernel_rfl)) (fun _ _ _ h => h) (Or.inl ⟨by rfl, ?_⟩) ?_ ?_
                          rotate_left
                          · intro w'
                            go_simp
                            with_reducible rfl
                          rotate_left
                          · simp only [Act.put, List.setIfInBounds_toArray, List.set_cons_zero, List.set_cons_succ, i64_w, i32_w]
                            rfl
                          refine pure_ (i := 19) (N := some 82) (v := ?_) (a' := ?_) #[true, true, true, true, true, true, true, true, true, true, true, true, false, true, false, false, true, false, false, true, false, false, false, false, false, false, false, false, false, false, false, false, false, false, false, false, false, false] rfl rfl (any_of HT_.out (by kernel_rfl)) (fun _ _ _ h => h) (Or.inl ⟨by rfl, ?_⟩) ?_ ?_
                          rotate_left
                          · intro w'
                            go_simp
                            with_reducible rfl
                          rotate_left
                          · simp only [Act.put, List.setIfInBounds_toArray, List.set_cons_zero, List.set_cons_succ, i64_w, i32_w]
                            rfl
                          refine take_ (i := 12) (N := some 75) (v := ?_) (a' := ?_) #[true, true, true, true, true, true, true, true, true, true, true, true, true, true, false, false, true, false, false, true, false, false, false, false, false, false, false, false, false, false, false, false, false, false, false, false, false, false] rfl rfl (take_ofW HT_.out HW_.out (by kernel_rfl)) (fun _ _ _ h => h) (Or.inl ⟨by rfl, ?_⟩) hHeld ?_ ?_
                          rotate_left
                          · rintro w' ⟨s0, s1, s2, s3, s4, s5, s6, s7, s8, s9, s10, s11, s12, s13, s14, s15, s16, s17⟩
                            go_simp
                            with_reducible rfl
                          rotate_left
                          · simp only [Act.put, List.setIfInBounds_toArray, List.set_cons_zero, List.set_cons_succ, i64_w, i32_w]
                            rfl
                          refine take_ (i := 15) (N := some 78) (v := ?_) (a' := ?_) #[true, true, true, true, true, true, true, true, true, true, true, true, true, true, false, true, true, false, false, true, false, false, false, false, false, false, false, false, false, false, false, false, false, false, false, false, false, false] rfl rfl (take_ofW HT_.out HW_.out (by kernel_rfl)) (fun _ _ _ h => h) (Or.inl ⟨by rfl, ?_⟩) hHeld ?_ ?_
                          rotate_left
                          · rintro w' ⟨s0, s1, s2, s3, s4, s5, s6, s7, s8, s9, s10, s11, s12, s13, s14, s15, s16, s17⟩
                            go_simp
                            with_reducible rfl
                          rotate_left
                          · simp only [Act.put, List.setIfInBounds_toArray, List.set_cons_zero, List.set_cons_succ, i64_w, i32_w]
                            rfl
                          refine take_ (i := 18) (N := some 81) (v := ?_) (a' := ?_) #[true, true, true, true, true, true, true, true, true, true, true, true, true, true, false, true, true, false, true, true, false, false, false, false, false, false, false, false, false, false, false, false, false, false, false, false, false, false] rfl rfl (take_ofW HT_.out HW_.out (by kernel_rfl)) (fun _ _ _ h => h) (Or.inl ⟨by rfl, ?_⟩) hHeld ?_ ?_
                          rotate_left
                          · rintro w' ⟨s0, s1, s2, s3, s4, s5, s6, s7, s8, s9, s10, s11, s12, s13, s14, s15, s16, s17⟩
                            go_simp
                            with_reducible rfl
                          rotate_left
                          · simp only [Act.put, List.setIfInBounds_toArray, List.set_cons_zero, List.set_cons_succ, i64_w, i32_w]
                            rfl
                          refine one_ (i := 14) (N := some 77) #[true, true, true, true, true, true, true, true, true, true, true, true, true, true, true, true, true, false, true, true, false, false, false, false, false, false, false, false, false, false, false, false, false, false, false, false, false, false] rfl rfl (one_of HT_.out (by kernel_rfl)) (by decide) (fun K hK => ?_)
                          refine goes_ Try.func25 (by kernel_rfl) rfl #[.agg #[.int .i64 q0, .int .i64 q1, .slice A0_2 l0_2.length c0_2, .int .i64 q3, .int .i64 q4, .int .i64 q5, .int .i64 q6, .int .i64 q7, .int .i64 q8], .slice Ao72 y251.length co72] (by rfl) rfl rfl (by (try simp only [List.map_toArray, List.map_cons, List.map_nil]); first | done | rfl | (simp only [List.length_drop, List.length_take]; rfl)) ?_
                          with_reducible refine (unit_Starts.calls k2 q0 q1 _ _ l0_2 q3 q4 q5 q6 q7 q8 _ _ y251 t264 _ ?side1 ?side2 ?side3 ?side4 A58.out).mono ?_
                          (case side1 => repeat (first | exact (Kd.C_below HR0_2.out HB.out) | (with_reducible refine Kd.C_alloc ?_ _) | (with_reducible refine Kd.C_drewN ?_ _) | (with_reducible refine Kd.C_drew ?_)))
                          (case side2 => exact HC0_2.out)
                          (case side3 => repeat (first | exact (Kd.R_reads' HO_7.out).2.2 | (with_reducible refine Kd.C_alloc ?_ _) | (with_reducible refine Kd.C_drewN ?_ _) | (with_reducible refine Kd.C_drew ?_)))
                          (case side4 => exact (Kd.R_reads' HO_7.out).2.1)
                          rintro e w75 ⟨rfl, hb⟩
                          refine ⟨_, rfl, ?_⟩
                          have n0_ := Aside0.mk (Kd.R_below (by (with_reducible repeat (first | apply Kd.R_alloc | apply Kd.R_drewN | apply Kd.R_drew)); exact HO_7.out) hb)
                          have n1_ := Aside0.mk (blk_below (g := g239) (o := .cells #[.int .i64 q0, .int .i64 q1, .slice A0_2 l0_2.length c0_2, .int .i64 q3, .int .i64 q4, .int .i64 q5, .int .i64 q6, .int .i64 q7, .int .i64 q8] 24 (0, 0)) (by (with_reducible repeat (first | refine blk_drewN ?_ _ | refine blk_drew ?_ | refine blk_alloc ?_ _)); exact BK239.out) hb)
                          have n2_ := Aside0.mk (blk_below (g := g260) (o := .cells #[.int .i64 q0, .int .i64 q1, .slice A0_2 l0_2.length c0_2, .int .i64 q3, .int .i64 q4, .int .i64 q5, .int .i64 q6, .int .i64 q7, .int .i64 x8_2] 24 (0, 0)) (by (with_reducible repeat (first | refine blk_drewN ?_ _ | refine blk_drew ?_ | refine blk_alloc ?_ _)); exact BK260.out) hb)
                          have n3_ := Aside0.mk (below_step (by repeat (first | (with_reducible first | exact HB.out | apply below_alloc | apply pw_below_drewN | apply below_drew1 | refine below_set ?_ GE239.out | refine below_set ?_ GE260.out) | exact HB.out)) hb)
                          clear HO_7
                          clear BK239
                          clear BK260
                          clear HB
                          have HO_7 := n0_
                          have BK239 := n1_
                          have BK260 := n2_
                          have HB := n3_
                          clear n0_ n1_ n2_ n3_
                          (try clear hb)
                          (try clear hb2)
                          (try clear hk)
                          (try clear hi)
                          refine hK.out _ _ ⟨(blk_cell BK260.out 0).trans rfl, (blk_cell BK260.out 1).trans rfl, (blk_cell BK260.out 2).trans rfl, (blk_cell BK260.out 3).trans rfl, (blk_cell BK260.out 4).trans rfl, (blk_cell BK260.out 5).trans rfl, (blk_cell BK260.out 6).trans rfl, (blk_cell BK260.out 7).trans rfl, (blk_cell BK260.out 8).trans rfl, (blk_cell BK239.out 0).trans rfl, (blk_cell BK239.out 1).trans rfl, (blk_cell BK239.out 2).trans rfl, (blk_cell BK239.out 3).trans rfl, (blk_cell BK239.out 4).trans rfl, (blk_cell BK239.out 5).trans rfl, (blk_cell BK239.out 6).trans rfl, (blk_cell BK239.out 7).trans rfl, (blk_cell BK239.out 8).trans rfl⟩ (fun hHeld => ?_)
                          clear hK K
                          refine norm_ (a' := ?_) ?_ ?_
                          rotate_left
                          · show Act.put _ (some 77) _ = _
                            simp only [Act.put, List.setIfInBounds_toArray, List.set_cons_zero, List.set_cons_succ, i64_w, i32_w]
                            rfl
                          refine one_ (i := 17) (N := some 80) (pbn 38 18) rfl rfl (one_of HT_.out (by kernel_rfl)) (by decide) (fun K hK => ?_)
                          refine goes_ Try.func25 (by kernel_rfl) rfl #[.agg #[.int .i64 q0, .int .i64 q1, .slice A0_2 l0_2.length c0_2, .int .i64 q3, .int .i64 q4, .int .i64 q5, .int .i64 q6, .int .i64 q7, .int .i64 q8], .slice A1 l1.length c1] (by rfl) rfl rfl (by (try simp only [List.map_toArray, List.map_cons, List.map_nil]); first | done | rfl | (simp only [List.length_drop, List.length_take]; rfl)) ?_
                          with_reducible refine (unit_Starts.calls k2 q0 q1 _ _ l0_2 q3 q4 q5 q6 q7 q8 _ _ l1 t265 _ ?side1 ?side2 ?side3 ?side4 A59.out).mono ?_
                          (case side1 => repeat (first | exact (Kd.C_below HR0_2.out HB.out) | (with_reducible refine Kd.C_alloc ?_ _) | (with_reducible refine Kd.C_drewN ?_ _) | (with_reducible refine Kd.C_drew ?_)))
                          (case side2 => exact HC0_2.out)
                          (case side3 => repeat (first | exact (Kd.C_below HR1.out HB.out) | (with_reducible refine Kd.C_alloc ?_ _) | (with_reducible refine Kd.C_drewN ?_ _) | (with_reducible refine Kd.C_drew ?_)))
                          (case side4 => exact HC1.out)
                          rintro e w76 ⟨rfl, hb⟩
                          refine ⟨_, rfl, ?_⟩
                          have n0_ := Aside0.mk (Kd.R_below (by (with_reducible repeat (first | apply Kd.R_alloc | apply Kd.R_drewN | apply Kd.R_drew)); exact HO_7.out) hb)
                          have n1_ := Aside0.mk (blk_below (g := g239) (o := .cells #[.int .i64 q0, .int .i64 q1, .slice A0_2 l0_2.length c0_2, .int .i64 q3, .int .i64 q4, .int .i64 q5, .int .i64 q6, .int .i64 q7, .int .i64 q8] 24 (0, 0)) (by (with_reducible repeat (first | refine blk_drewN ?_ _ | refine blk_drew ?_ | refine blk_alloc ?_ _)); exact BK239.out) hb)
                          have n2_ := Aside0.mk (blk_below (g := g260) (o := .cells #[.int .i64 q0, .int .i64 q1, .slice A0_2 l0_2.length c0_2, .int .i64 q3, .int .i64 q4, .int .i64 q5, .int .i64 q6, .int .i64 q7, .int .i64 x8_2] 24 (0, 0)) (by (with_reducible repeat (first | refine blk_drewN ?_ _ | refine blk_drew ?_ | refine blk_alloc ?_ _)); exact BK260.out) hb)
                          have n3_ := Aside0.mk (below_step (by repeat (first | (with_reducible first | exact HB.out | apply below_alloc | apply pw_below_drewN | apply below_drew1 | refine below_set ?_ GE239.out | refine below_set ?_ GE260.out) | exact HB.out)) hb)
                          clear HO_7
                          clear BK239
                          clear BK260
                          clear HB
                          have HO_7 := n0_
                          have BK239 := n1_
                          have BK260 := n2_
                          have HB := n3_
                          clear n0_ n1_ n2_ n3_
                          (try clear hb)
                          (try clear hb2)
                          (try clear hk)
                          (try clear hi)
                          refine hK.out _ _ ⟨(blk_cell BK260.out 0).trans rfl, (blk_cell BK260.out 1).trans rfl, (blk_cell BK260.out 2).trans rfl, (blk_cell BK260.out 3).trans rfl, (blk_cell BK260.out 4).trans rfl, (blk_cell BK260.out 5).trans rfl, (blk_cell BK260.out 6).trans rfl, (blk_cell BK260.out 7).trans rfl, (blk_cell BK260.out 8).trans rfl, (blk_cell BK239.out 0).trans rfl, (blk_cell BK239.out 1).trans rfl, (blk_cell BK239.out 2).trans rfl, (blk_cell BK239.out 3).trans rfl, (blk_cell BK239.out 4).trans rfl, (blk_cell BK239.out 5).trans rfl, (blk_cell BK239.out 6).trans rfl, (blk_cell BK239.out 7).trans rfl, (blk_cell BK239.out 8).trans rfl⟩ (fun hHeld => ?_)
                          clear hK K
                          refine norm_ (a' := ?_) ?_ ?_
                          rotate_left
                          · show Act.put _ (some 80) _ = _
                            simp only [Act.put, List.setIfInBounds_toArray, List.set_cons_zero, List.set_cons_succ, i64_w, i32_w]
                            rfl
                          refine one_ (i := 20) (N := some 83) (pbn 38 17) rfl rfl (one_of HT_.out (by kernel_rfl)) (by decide) (fun K hK => ?_)
                          refine goes_ Try.func25 (by kernel_rfl) rfl #[.agg #[.int .i64 q0, .int .i64 q1, .slice A0_2 l0_2.length c0_2, .int .i64 q3, .int .i64 q4, .int .i64 q5, .int .i64 q6, .int .i64 q7, .int .i64 x8_2], .slice A2 l2.length c2] (by rfl) rfl rfl (by (try simp only [List.map_toArray, List.map_cons, List.map_nil]); first | done | rfl | (simp only [List.length_drop, List.length_take]; rfl)) ?_
                          with_reducible refine (unit_Starts.calls k2 q0 q1 _ _ l0_2 q3 q4 q5 q6 q7 x8_2 _ _ l2 t266 _ ?side1 ?side2 ?side3 ?side4 A60.out).mono ?_
                          (case side1 => repeat (first | exact (Kd.C_below HR0_2.out HB.out) | (with_reducible refine Kd.C_alloc ?_ _) | (with_reducible refine Kd.C_drewN ?_ _) | (with_reducible refine Kd.C_drew ?_)))
                          (case side2 => exact HC0_2.out)
                          (case side3 => repeat (first | exact (Kd.C_below HR2.out HB.out) | (with_reducible refine Kd.C_alloc ?_ _) | (with_reducible refine Kd.C_drewN ?_ _) | (with_reducible refine Kd.C_drew ?_)))
                          (case side4 => exact HC2.out)
                          rintro e w77 ⟨rfl, hb⟩
                          refine ⟨_, rfl, ?_⟩
                          have n0_ := Aside0.mk (Kd.R_below (by (with_reducible repeat (first | apply Kd.R_alloc | apply Kd.R_drewN | apply Kd.R_drew)); exact HO_7.out) hb)
                          have n1_ := Aside0.mk (blk_below (g := g239) (o := .cells #[.int .i64 q0, .int .i64 q1, .slice A0_2 l0_2.length c0_2, .int .i64 q3, .int .i64 q4, .int .i64 q5, .int .i64 q6, .int .i64 q7, .int .i64 q8] 24 (0, 0)) (by (with_reducible repeat (first | refine blk_drewN ?_ _ | refine blk_drew ?_ | refine blk_alloc ?_ _)); exact BK239.out) hb)
                          have n2_ := Aside0.mk (blk_below (g := g260) (o := .cells #[.int .i64 q0, .int .i64 q1, .slice A0_2 l0_2.length c0_2, .int .i64 q3, .int .i64 q4, .int .i64 q5, .int .i64 q6, .int .i64 q7, .int .i64 x8_2] 24 (0, 0)) (by (with_reducible repeat (first | refine blk_drewN ?_ _ | refine blk_drew ?_ | refine blk_alloc ?_ _)); exact BK260.out) hb)
                          have n3_ := Aside0.mk (below_step (by repeat (first | (with_reducible first | exact HB.out | apply below_alloc | apply pw_below_drewN | apply below_drew1 | refine below_set ?_ GE239.out | refine below_set ?_ GE260.out) | exact HB.out)) hb)
                          clear HO_7
                          clear BK239
                          clear BK260
                          clear HB
                          have HO_7 := n0_
                          have BK239 := n1_
                          have BK260 := n2_
                          have HB := n3_
                          clear n0_ n1_ n2_ n3_
                          (try clear hb)
                          (try clear hb2)
                          (try clear hk)
                          (try clear hi)
                          refine hK.out _ _ ⟨(blk_cell BK260.out 0).trans rfl, (blk_cell BK260.out 1).trans rfl, (blk_cell BK260.out 2).trans rfl, (blk_cell BK260.out 3).trans rfl, (blk_cell BK260.out 4).trans rfl, (blk_cell BK260.out 5).trans rfl, (blk_cell BK260.out 6).trans rfl, (blk_cell BK260.out 7).trans rfl, (blk_cell BK260.out 8).trans rfl, (blk_cell BK239.out 0).trans rfl, (blk_cell BK239.out 1).trans rfl, (blk_cell BK239.out 2).trans rfl, (blk_cell BK239.out 3).trans rfl, (blk_cell BK239.out 4).trans rfl, (blk_cell BK239.out 5).trans rfl, (blk_cell BK239.out 6).trans rfl, (blk_cell BK239.out 7).trans rfl, (blk_cell BK239.out 8).trans rfl⟩ (fun hHeld => ?_)
                          clear hK K
                          refine norm_ (a' := ?_) ?_ ?_
                          rotate_left
                          · show Act.put _ (some 83) _ = _
                            simp only [Act.put, List.setIfInBounds_toArray, List.set_cons_zero, List.set_cons_succ, i64_w, i32_w]
                            rfl
                          iterate 4 ((refine pureAt (n := 38) (v := ?_) (a' := ?_) rfl rfl rfl (any_of HT_.out (by kernel_rfl)) (fun _ _ _ h => h) (Or.inl ⟨by rfl, ?_⟩) ?_ ?_; rotate_left; (focus (intro w'; go_simp; with_reducible rfl)); rotate_left; (focus (simp only [Act.put, List.setIfInBounds_toArray, List.set_cons_zero, List.set_cons_succ, i64_w, i32_w]; rfl))))
                          refine pure_ (i := 26) (N := some 89) (v := ?_) (a' := ?_) #[true, true, true, true, true, true, true, true, true, true, true, true, true, true, true, true, true, true, true, true, true, true, true, true, true, false, true, false, false, false, false, false, false, false, false, false, false, false] rfl rfl (any_of HT_.out (by kernel_rfl)) (fun _ _ _ h => h) (Or.inl ⟨by rfl, ?_⟩) ?_ ?_
                          rotate_left
                          · intro w'
                            go_simp
                            with_reducible rfl
                          rotate_left
                          · simp only [Act.put, List.setIfInBounds_toArray, List.set_cons_zero, List.set_cons_succ, i64_w, i32_w]
                            rfl
                          refine pure_ (i := 29) (N := some 92) (v := ?_) (a' := ?_) #[true, true, true, true, true, true, true, true, true, true, true, true, true, true, true, true, true, true, true, true, true, true, true, true, true, false, true, false, false, true, false, false, false, false, false, false, false, false] rfl rfl (any_of HT_.out (by kernel_rfl)) (fun _ _ _ h => h) (Or.inl ⟨by rfl, ?_⟩) ?_ ?_
                          rotate_left
                          · intro w'
                            go_simp
                            with_reducible rfl
                          rotate_left
                          · simp only [Act.put, List.setIfInBounds_toArray, List.set_cons_zero, List.set_cons_succ, i64_w, i32_w]
                            rfl
                          refine pure_ (i := 32) (N := some 95) (v := ?_) (a' := ?_) #[true, true, true, true, true, true, true, true, true, true, true, true, true, true, true, true, true, true, true, true, true, true, true, true, true, false, true, false, false, true, false, false, true, false, false, false, false, false] rfl rfl (any_of HT_.out (by kernel_rfl)) (fun _ _ _ h => h) (Or.inl ⟨by rfl, ?_⟩) ?_ ?_
                          rotate_left
                          · intro w'
                            go_simp
                            with_reducible rfl
                          rotate_left
                          · simp only [Act.put, List.setIfInBounds_toArray, List.set_cons_zero, List.set_cons_succ, i64_w, i32_w]
                            rfl
                          refine take_ (i := 25) (N := some 88) (v := ?_) (a' := ?_) #[true, true, true, true, true, true, true, true, true, true, true, true, true, true, true, true, true, true, true, true, true, true, true, true, true, true, true, false, false, true, false, false, true, false, false, false, false, false] rfl rfl (take_ofW HT_.out HW_.out (by kernel_rfl)) (fun _ _ _ h => h) (Or.inl ⟨by rfl, ?_⟩) hHeld ?_ ?_
                          rotate_left
                          · rintro w' ⟨s0, s1, s2, s3, s4, s5, s6, s7, s8, s9, s10, s11, s12, s13, s14, s15, s16, s17⟩
                            go_simp
                            with_reducible rfl
                          rotate_left
                          · simp only [Act.put, List.setIfInBounds_toArray, List.set_cons_zero, List.set_cons_succ, i64_w, i32_w]
                            rfl
                          refine take_ (i := 28) (N := some 91) (v := ?_) (a' := ?_) #[true, true, true, true, true, true, true, true, true, true, true, true, true, true, true, true, true, true, true, true, true, true, true, true, true, true, true, false, true, true, false, false, true, false, false, false, false, false] rfl rfl (take_ofW HT_.out HW_.out (by kernel_rfl)) (fun _ _ _ h => h) (Or.inl ⟨by rfl, ?_⟩) hHeld ?_ ?_
                          rotate_left
                          · rintro w' ⟨s0, s1, s2, s3, s4, s5, s6, s7, s8, s9, s10, s11, s12, s13, s14, s15, s16, s17⟩
                            go_simp
                            with_reducible rfl
                          rotate_left
                          · simp only [Act.put, List.setIfInBounds_toArray, List.set_cons_zero, List.set_cons_succ, i64_w, i32_w]
                            rfl
                          refine take_ (i := 31) (N := some 94) (v := ?_) (a' := ?_) #[true, true, true, true, true, true, true, true, true, true, true, true, true, true, true, true, true, true, true, true, true, true, true, true, true, true, true, false, true, true, false, true, true, false, false, false, false, false] rfl rfl (take_ofW HT_.out HW_.out (by kernel_rfl)) (fun _ _ _ h => h) (Or.inl ⟨by rfl, ?_⟩) hHeld ?_ ?_
                          rotate_left
                          · rintro w' ⟨s0, s1, s2, s3, s4, s5, s6, s7, s8, s9, s10, s11, s12, s13, s14, s15, s16, s17⟩
                            go_simp
                            with_reducible rfl
                          rotate_left
                          · simp only [Act.put, List.setIfInBounds_toArray, List.set_cons_zero, List.set_cons_succ, i64_w, i32_w]
                            rfl
                          refine one_ (i := 27) (N := some 90) #[true, true, true, true, true, true, true, true, true, true, true, true, true, true, true, true, true, true, true, true, true, true, true, true, true, true, true, true, true, true, false, true, true, false, false, false, false, false] rfl rfl (one_of HT_.out (by kernel_rfl)) (by decide) (fun K hK => ?_)
                          refine goes_ Try.func28 (by kernel_rfl) rfl #[.agg #[.int .i64 q0, .int .i64 q1, .slice A0_2 l0_2.length c0_2, .int .i64 q3, .int .i64 q4, .int .i64 q5, .int .i64 q6, .int .i64 q7, .int .i64 q8], .slice Ao72 y251.length co72] (by rfl) rfl rfl (by (try simp only [List.map_toArray, List.map_cons, List.map_nil]); first | done | rfl | (simp only [List.length_drop, List.length_take]; rfl)) ?_
                          with_reducible refine (unit_FixedCost.calls k2 q0 q1 _ _ l0_2 q3 q4 q5 q6 q7 q8 _ _ y251 t267 _ ?side1 ?side2 ?side3 ?side4 A62.out).mono ?_
                          (case side1 => repeat (first | exact (Kd.C_below HR0_2.out HB.out) | (with_reducible refine Kd.C_alloc ?_ _) | (with_reducible refine Kd.C_drewN ?_ _) | (with_reducible refine Kd.C_drew ?_)))
                          (case side2 => exact HC0_2.out)
                          (case side3 => repeat (first | exact (Kd.R_reads' HO_7.out).2.2 | (with_reducible refine Kd.C_alloc ?_ _) | (with_reducible refine Kd.C_drewN ?_ _) | (with_reducible refine Kd.C_drew ?_)))
                          (case side4 => exact (Kd.R_reads' HO_7.out).2.1)
                          rintro e w78 ⟨rfl, hb⟩
                          refine ⟨_, rfl, ?_⟩
                          have n0_ := Aside0.mk (Kd.R_below (by (with_reducible repeat (first | apply Kd.R_alloc | apply Kd.R_drewN | apply Kd.R_drew)); exact HO_7.out) hb)
                          have n1_ := Aside0.mk (blk_below (g := g239) (o := .cells #[.int .i64 q0, .int .i64 q1, .slice A0_2 l0_2.length c0_2, .int .i64 q3, .int .i64 q4, .int .i64 q5, .int .i64 q6, .int .i64 q7, .int .i64 q8] 24 (0, 0)) (by (with_reducible repeat (first | refine blk_drewN ?_ _ | refine blk_drew ?_ | refine blk_alloc ?_ _)); exact BK239.out) hb)
                          have n2_ := Aside0.mk (blk_below (g := g260) (o := .cells #[.int .i64 q0, .int .i64 q1, .slice A0_2 l0_2.length c0_2, .int .i64 q3, .int .i64 q4, .int .i64 q5, .int .i64 q6, .int .i64 q7, .int .i64 x8_2] 24 (0, 0)) (by (with_reducible repeat (first | refine blk_drewN ?_ _ | refine blk_drew ?_ | refine blk_alloc ?_ _)); exact BK260.out) hb)
                          have n3_ := Aside0.mk (below_step (by repeat (first | (with_reducible first | exact HB.out | apply below_alloc | apply pw_below_drewN | apply below_drew1 | refine below_set ?_ GE239.out | refine below_set ?_ GE260.out) | exact HB.out)) hb)
                          clear HO_7
                          clear BK239
                          clear BK260
                          clear HB
                          have HO_7 := n0_
                          have BK239 := n1_
                          have BK260 := n2_
                          have HB := n3_
                          clear n0_ n1_ n2_ n3_
                          (try clear hb)
                          (try clear hb2)
                          (try clear hk)
                          (try clear hi)
                          refine hK.out _ _ ⟨(blk_cell BK260.out 0).trans rfl, (blk_cell BK260.out 1).trans rfl, (blk_cell BK260.out 2).trans rfl, (blk_cell BK260.out 3).trans rfl, (blk_cell BK260.out 4).trans rfl, (blk_cell BK260.out 5).trans rfl, (blk_cell BK260.out 6).trans rfl, (blk_cell BK260.out 7).trans rfl, (blk_cell BK260.out 8).trans rfl, (blk_cell BK239.out 0).trans rfl, (blk_cell BK239.out 1).trans rfl, (blk_cell BK239.out 2).trans rfl, (blk_cell BK239.out 3).trans rfl, (blk_cell BK239.out 4).trans rfl, (blk_cell BK239.out 5).trans rfl, (blk_cell BK239.out 6).trans rfl, (blk_cell BK239.out 7).trans rfl, (blk_cell BK239.out 8).trans rfl⟩ (fun hHeld => ?_)
                          clear hK K
                          refine norm_ (a' := ?_) ?_ ?_
                          rotate_left
                          · show Act.put _ (some 90) _ = _
                            simp only [Act.put, List.setIfInBounds_toArray, List.set_cons_zero, List.set_cons_succ, i64_w, i32_w]
                            rfl
                          refine one_ (i := 30) (N := some 93) (pbn 38 5) rfl rfl (one_of HT_.out (by kernel_rfl)) (by decide) (fun K hK => ?_)
                          refine goes_ Try.func28 (by kernel_rfl) rfl #[.agg #[.int .i64 q0, .int .i64 q1, .slice A0_2 l0_2.length c0_2, .int .i64 q3, .int .i64 q4, .int .i64 q5, .int .i64 q6, .int .i64 q7, .int .i64 q8], .slice A1 l1.length c1] (by rfl) rfl rfl (by (try simp only [List.map_toArray, List.map_cons, List.map_nil]); first | done | rfl | (simp only [List.length_drop, List.length_take]; rfl)) ?_
                          with_reducible refine (unit_FixedCost.calls k2 q0 q1 _ _ l0_2 q3 q4 q5 q6 q7 q8 _ _ l1 t268 _ ?side1 ?side2 ?side3 ?side4 A63.out).mono ?_
                          (case side1 => repeat (first | exact (Kd.C_below HR0_2.out HB.out) | (with_reducible refine Kd.C_alloc ?_ _) | (with_reducible refine Kd.C_drewN ?_ _) | (with_reducible refine Kd.C_drew ?_)))
                          (case side2 => exact HC0_2.out)
                          (case side3 => repeat (first | exact (Kd.C_below HR1.out HB.out) | (with_reducible refine Kd.C_alloc ?_ _) | (with_reducible refine Kd.C_drewN ?_ _) | (with_reducible refine Kd.C_drew ?_)))
                          (case side4 => exact HC1.out)
                          rintro e w79 ⟨rfl, hb⟩
                          refine ⟨_, rfl, ?_⟩
                          have n0_ := Aside0.mk (Kd.R_below (by (with_reducible repeat (first | apply Kd.R_alloc | apply Kd.R_drewN | apply Kd.R_drew)); exact HO_7.out) hb)
                          have n1_ := Aside0.mk (blk_below (g := g239) (o := .cells #[.int .i64 q0, .int .i64 q1, .slice A0_2 l0_2.length c0_2, .int .i64 q3, .int .i64 q4, .int .i64 q5, .int .i64 q6, .int .i64 q7, .int .i64 q8] 24 (0, 0)) (by (with_reducible repeat (first | refine blk_drewN ?_ _ | refine blk_drew ?_ | refine blk_alloc ?_ _)); exact BK239.out) hb)
                          have n2_ := Aside0.mk (blk_below (g := g260) (o := .cells #[.int .i64 q0, .int .i64 q1, .slice A0_2 l0_2.length c0_2, .int .i64 q3, .int .i64 q4, .int .i64 q5, .int .i64 q6, .int .i64 q7, .int .i64 x8_2] 24 (0, 0)) (by (with_reducible repeat (first | refine blk_drewN ?_ _ | refine blk_drew ?_ | refine blk_alloc ?_ _)); exact BK260.out) hb)
                          have n3_ := Aside0.mk (below_step (by repeat (first | (with_reducible first | exact HB.out | apply below_alloc | apply pw_below_drewN | apply below_drew1 | refine below_set ?_ GE239.out | refine below_set ?_ GE260.out) | exact HB.out)) hb)
                          clear HO_7
                          clear BK239
                          clear BK260
                          clear HB
                          have HO_7 := n0_
                          have BK239 := n1_
                          have BK260 := n2_
                          have HB := n3_
                          clear n0_ n1_ n2_ n3_
                          (try clear hb)
                          (try clear hb2)
                          (try clear hk)
                          (try clear hi)
                          refine hK.out _ _ ⟨(blk_cell BK260.out 0).trans rfl, (blk_cell BK260.out 1).trans rfl, (blk_cell BK260.out 2).trans rfl, (blk_cell BK260.out 3).trans rfl, (blk_cell BK260.out 4).trans rfl, (blk_cell BK260.out 5).trans rfl, (blk_cell BK260.out 6).trans rfl, (blk_cell BK260.out 7).trans rfl, (blk_cell BK260.out 8).trans rfl, (blk_cell BK239.out 0).trans rfl, (blk_cell BK239.out 1).trans rfl, (blk_cell BK239.out 2).trans rfl, (blk_cell BK239.out 3).trans rfl, (blk_cell BK239.out 4).trans rfl, (blk_cell BK239.out 5).trans rfl, (blk_cell BK239.out 6).trans rfl, (blk_cell BK239.out 7).trans rfl, (blk_cell BK239.out 8).trans rfl⟩ (fun hHeld => ?_)
                          clear hK K
                          refine norm_ (a' := ?_) ?_ ?_
                          rotate_left
                          · show Act.put _ (some 93) _ = _
                            simp only [Act.put, List.setIfInBounds_toArray, List.set_cons_zero, List.set_cons_succ, i64_w, i32_w]
                            rfl
                          refine one_ (i := 33) (N := some 96) (pbn 38 4) rfl rfl (one_of HT_.out (by kernel_rfl)) (by decide) (fun K hK => ?_)
                          refine goes_ Try.func28 (by kernel_rfl) rfl #[.agg #[.int .i64 q0, .int .i64 q1, .slice A0_2 l0_2.length c0_2, .int .i64 q3, .int .i64 q4, .int .i64 q5, .int .i64 q6, .int .i64 q7, .int .i64 x8_2], .slice A2 l2.length c2] (by rfl) rfl rfl (by (try simp only [List.map_toArray, List.map_cons, List.map_nil]); first | done | rfl | (simp only [List.length_drop, List.length_take]; rfl)) ?_
                          with_reducible refine (unit_FixedCost.calls k2 q0 q1 _ _ l0_2 q3 q4 q5 q6 q7 x8_2 _ _ l2 t269 _ ?side1 ?side2 ?side3 ?side4 A64.out).mono ?_
                          (case side1 => repeat (first | exact (Kd.C_below HR0_2.out HB.out) | (with_reducible refine Kd.C_alloc ?_ _) | (with_reducible refine Kd.C_drewN ?_ _) | (with_reducible refine Kd.C_drew ?_)))
                          (case side2 => exact HC0_2.out)
                          (case side3 => repeat (first | exact (Kd.C_below HR2.out HB.out) | (with_reducible refine Kd.C_alloc ?_ _) | (with_reducible refine Kd.C_drewN ?_ _) | (with_reducible refine Kd.C_drew ?_)))
                          (case side4 => exact HC2.out)
                          rintro e w80 ⟨rfl, hb⟩
                          refine ⟨_, rfl, ?_⟩
                          have n0_ := Aside0.mk (Kd.R_below (by (with_reducible repeat (first | apply Kd.R_alloc | apply Kd.R_drewN | apply Kd.R_drew)); exact HO_7.out) hb)
                          have n1_ := Aside0.mk (blk_below (g := g239) (o := .cells #[.int .i64 q0, .int .i64 q1, .slice A0_2 l0_2.length c0_2, .int .i64 q3, .int .i64 q4, .int .i64 q5, .int .i64 q6, .int .i64 q7, .int .i64 q8] 24 (0, 0)) (by (with_reducible repeat (first | refine blk_drewN ?_ _ | refine blk_drew ?_ | refine blk_alloc ?_ _)); exact BK239.out) hb)
                          have n2_ := Aside0.mk (blk_below (g := g260) (o := .cells #[.int .i64 q0, .int .i64 q1, .slice A0_2 l0_2.length c0_2, .int .i64 q3, .int .i64 q4, .int .i64 q5, .int .i64 q6, .int .i64 q7, .int .i64 x8_2] 24 (0, 0)) (by (with_reducible repeat (first | refine blk_drewN ?_ _ | refine blk_drew ?_ | refine blk_alloc ?_ _)); exact BK260.out) hb)
                          have n3_ := Aside0.mk (below_step (by repeat (first | (with_reducible first | exact HB.out | apply below_alloc | apply pw_below_drewN | apply below_drew1 | refine below_set ?_ GE239.out | refine below_set ?_ GE260.out) | exact HB.out)) hb)
                          clear HO_7
                          clear BK239
                          clear BK260
                          clear HB
                          have HO_7 := n0_
                          have BK239 := n1_
                          have BK260 := n2_
                          have HB := n3_
                          clear n0_ n1_ n2_ n3_
                          (try clear hb)
                          (try clear hb2)
                          (try clear hk)
                          (try clear hi)
                          refine hK.out _ _ ⟨(blk_cell BK260.out 0).trans rfl, (blk_cell BK260.out 1).trans rfl, (blk_cell BK260.out 2).trans rfl, (blk_cell BK260.out 3).trans rfl, (blk_cell BK260.out 4).trans rfl, (blk_cell BK260.out 5).trans rfl, (blk_cell BK260.out 6).trans rfl, (blk_cell BK260.out 7).trans rfl, (blk_cell BK260.out 8).trans rfl, (blk_cell BK239.out 0).trans rfl, (blk_cell BK239.out 1).trans rfl, (blk_cell BK239.out 2).trans rfl, (blk_cell BK239.out 3).trans rfl, (blk_cell BK239.out 4).trans rfl, (blk_cell BK239.out 5).trans rfl, (blk_cell BK239.out 6).trans rfl, (blk_cell BK239.out 7).trans rfl, (blk_cell BK239.out 8).trans rfl⟩ (fun hHeld => ?_)
                          clear hK K
                          refine norm_ (a' := ?_) ?_ ?_
                          rotate_left
                          · show Act.put _ (some 96) _ = _
                            simp only [Act.put, List.setIfInBounds_toArray, List.set_cons_zero, List.set_cons_succ, i64_w, i32_w]
                            rfl
                          iterate 4 ((refine pureAt (n := 38) (v := ?_) (a' := ?_) rfl rfl rfl (any_of HT_.out (by kernel_rfl)) (fun _ _ _ h => h) (Or.inl ⟨by rfl, ?_⟩) ?_ ?_; rotate_left; (focus (intro w'; go_simp; with_reducible rfl)); rotate_left; (focus (simp only [Act.put, List.setIfInBounds_toArray, List.set_cons_zero, List.set_cons_succ, i64_w, i32_w]; rfl))))
                          refine done_ (done_of HT_.out (by kernel_rfl)) ?_
                          try go_wp2
                          go_ret
                          exact ⟨by first | rfl | (simp [errW_none, errW_some] <;> rfl) | (simp [*, errW_none, errW_some] <;> rfl), by repeat (first | (with_reducible first | exact HB.out | apply below_alloc | apply pw_below_drewN | apply below_drew1 | refine below_set ?_ GE239.out | refine below_set ?_ GE260.out) | exact HB.out)⟩
                        · rw [if_neg c61] at H
                          have c61b0 : (t264 == (wrap64 (t265 + t266))) = false := beq_eq_false_iff_ne.mpr c61
                          have c61b1 : (t264 != (wrap64 (t265 + t266))) = true := bne_iff_ne.mpr c61
                          obtain rfl := Option.some.inj H
                          have hcz81_0 : wr.cell? ⟨g239, 0, none⟩ = some (.int .i64 q0) := (blk_cell BK239.out 0).trans rfl
                          have hcz81_1 : wr.cell? ⟨g239, 1, none⟩ = some (.int .i64 q1) := (blk_cell BK239.out 1).trans rfl
                          have hcz81_2 : wr.cell? ⟨g239, 2, none⟩ = some (.slice A0_2 l0_2.length c0_2) := (blk_cell BK239.out 2).trans rfl
                          have hcz81_3 : wr.cell? ⟨g239, 3, none⟩ = some (.int .i64 q3) := (blk_cell BK239.out 3).trans rfl
                          have hcz81_4 : wr.cell? ⟨g239, 4, none⟩ = some (.int .i64 q4) := (blk_cell BK239.out 4).trans rfl
                          have hcz81_5 : wr.cell? ⟨g239, 5, none⟩ = some (.int .i64 q5) := (blk_cell BK239.out 5).trans rfl
                          have hcz81_6 : wr.cell? ⟨g239, 6, none⟩ = some (.int .i64 q6) := (blk_cell BK239.out 6).trans rfl
                          have hcz81_7 : wr.cell? ⟨g239, 7, none⟩ = some (.int .i64 q7) := (blk_cell BK239.out 7).trans rfl
                          have hcz81_8 : wr.cell? ⟨g239, 8, none⟩ = some (.int .i64 q8) := (blk_cell BK239.out 8).trans rfl
                          have hfz81_0 := blk_frozen BK239.out 0
                          have hfz81_1 := blk_frozen BK239.out 1
                          have hfz81_2 := blk_frozen BK239.out 2
                          have hfz81_3 := blk_frozen BK239.out 3
                          have hfz81_4 := blk_frozen BK239.out 4
                          have hfz81_5 := blk_frozen BK239.out 5
                          have hfz81_6 := blk_frozen BK239.out 6
                          have hfz81_7 := blk_frozen BK239.out 7
                          have hfz81_8 := blk_frozen BK239.out 8
                          try go_wp2_with (first | ((with_reducible refine gate_dst (N := 10) rfl ?_); refine box_event ?hg (N := 10) ?hd (cs := #[.int .i64 0, .int .i64 0, .slice none 0 0, .int .i64 0, .int .i64 0, .int .i64 0, .int .i64 0, .int .i64 0, .int .i64 0]) (t := 24) ?hr ?_; (case hd => rfl); (case hg => rfl); (case hr => first | (go_simp; done) | (go_simp; rfl)); intro g260 hg w82 hbox hb; have n0_ := Aside0.mk (Kd.R_below (by (with_reducible repeat (first | apply Kd.R_alloc | apply Kd.R_drewN | apply Kd.R_drew)); exact HO_7.out) hb); have n1_ := Aside0.mk (blk_below (g := g239) (o := .cells #[.int .i64 q0, .int .i64 q1, .slice A0_2 l0_2.length c0_2, .int .i64 q3, .int .i64 q4, .int .i64 q5, .int .i64 q6, .int .i64 q7, .int .i64 q8] 24 (0, 0)) (by (with_reducible repeat (first | refine blk_drewN ?_ _ | refine blk_drew ?_ | refine blk_alloc ?_ _)); exact BK239.out) hb); have n2_ := Aside0.mk (below_step (by repeat (first | (with_reducible first | exact HB.out | apply below_alloc | apply pw_below_drewN | apply below_drew1 | refine below_set ?_ GE239.out) | exact HB.out)) hb); have n3_ := Aside0.mk (hbox); have n4_ := Aside0.mk ((by rw [hg]; exact (below_size (by repeat (first | (with_reducible first | exact HB.out | apply below_alloc | apply pw_below_drewN | apply below_drew1 | refine below_set ?_ GE239.out) | exact HB.out))) : w.heap.size ≤ g260)); have n5_ := Aside0.mk ((by rw [hg]; exact (below_size (by repeat (first | (with_reducible first | exact HB.out | apply below_alloc | apply pw_below_drewN | apply below_drew1 | refine below_set ?_ GE239.out) | exact HB.out))) : w.heap.size ≤ g260)); have n6_ := Aside0.mk ((by rw [hg]; exact Nat.ne_of_lt (blk_lt (g := g239) (o := .cells #[.int .i64 q0, .int .i64 q1, .slice A0_2 l0_2.length c0_2, .int .i64 q3, .int .i64 q4, .int .i64 q5, .int .i64 q6, .int .i64 q7, .int .i64 q8] 24 (0, 0)) (by (with_reducible repeat (first | refine blk_drewN ?_ _ | refine blk_drew ?_ | refine blk_alloc ?_ _)); exact BK239.out)) : g239 ≠ g260)); have n7_ := Aside0.mk ((by rw [hg]; exact Nat.ne_of_gt (blk_lt (g := g239) (o := .cells #[.int .i64 q0, .int .i64 q1, .slice A0_2 l0_2.length c0_2, .int .i64 q3, .int .i64 q4, .int .i64 q5, .int .i64 q6, .int .i64 q7, .int .i64 q8] 24 (0, 0)) (by (with_reducible repeat (first | refine blk_drewN ?_ _ | refine blk_drew ?_ | refine blk_alloc ?_ _)); exact BK239.out)) : g260 ≠ g239)); clear HO_7; clear BK239; clear HB; have HO_7 := n0_; have BK239 := n1_; have HB := n2_; have BK260 := n3_; have GW260 := n4_; have GE260 := n5_; have NB239_260 := n6_; have NB260_239 := n7_; clear n0_ n1_ n2_ n3_ n4_ n5_ n6_ n7_; clear hb hbox hg; have hnb83 := NB260_239.out; have hnc83 := NB239_260.out; have hcz84_0 : w82.cell? ⟨g260, 0, none⟩ = some (.int .i64 0) := (blk_cell BK260.out 0).trans rfl; have hcz84_1 : w82.cell? ⟨g260, 1, none⟩ = some (.int .i64 0) := (blk_cell BK260.out 1).trans rfl; have hcz84_2 : w82.cell? ⟨g260, 2, none⟩ = some (.slice none 0 0) := (blk_cell BK260.out 2).trans rfl; have hcz84_3 : w82.cell? ⟨g260, 3, none⟩ = some (.int .i64 0) := (blk_cell BK260.out 3).trans rfl; have hcz84_4 : w82.cell? ⟨g260, 4, none⟩ = some (.int .i64 0) := (blk_cell BK260.out 4).trans rfl; have hcz84_5 : w82.cell? ⟨g260, 5, none⟩ = some (.int .i64 0) := (blk_cell BK260.out 5).trans rfl; have hcz84_6 : w82.cell? ⟨g260, 6, none⟩ = some (.int .i64 0) := (blk_cell BK260.out 6).trans rfl; have hcz84_7 : w82.cell? ⟨g260, 7, none⟩ = some (.int .i64 0) := (blk_cell BK260.out 7).trans rfl; have hcz84_8 : w82.cell? ⟨g260, 8, none⟩ = some (.int .i64 0) := (blk_cell BK260.out 8).trans rfl; have hfz84_0 := blk_frozen BK260.out 0; have hfz84_1 := blk_frozen BK260.out 1; have hfz84_2 := blk_frozen BK260.out 2; have hfz84_3 := blk_frozen BK260.out 3; have hfz84_4 := blk_frozen BK260.out 4; have hfz84_5 := blk_frozen BK260.out 5; have hfz84_6 := blk_frozen BK260.out 6; have hfz84_7 := blk_frozen BK260.out 7; have hfz84_8 := blk_frozen BK260.out 8))
                          have n0_ : Aside0 (Kd.R Kd.bool 4 ((((((((((w82.setCell ⟨g260, 0, none⟩ (.int .i64 q0)).setCell ⟨g260, 1, none⟩ (.int .i64 q1)).setCell ⟨g260, 2, none⟩ (.slice A0_2 l0_2.length c0_2)).setCell ⟨g260, 3, none⟩ (.int .i64 q3)).setCell ⟨g260, 4, none⟩ (.int .i64 q4)).setCell ⟨g260, 5, none⟩ (.int .i64 q5)).setCell ⟨g260, 6, none⟩ (.int .i64 q6)).setCell ⟨g260, 7, none⟩ (.int .i64 q7)).setCell ⟨g260, 8, none⟩ (.int .i64 q8)).setCell ⟨g260, 8, none⟩ (.int .i64 x8_2)) w.heap.size (fun _ => True) v252 y251) := ⟨by (with_reducible repeat (first | apply Kd.R_alloc | apply Kd.R_drewN | apply Kd.R_drew)); exact Kd.R_mono (Kd.R_far (p := ⟨g260, 8, none⟩) (Kd.R_far (p := ⟨g260, 8, none⟩) (Kd.R_far (p := ⟨g260, 7, none⟩) (Kd.R_far (p := ⟨g260, 6, none⟩) (Kd.R_far (p := ⟨g260, 5, none⟩) (Kd.R_far (p := ⟨g260, 4, none⟩) (Kd.R_far (p := ⟨g260, 3, none⟩) (Kd.R_far (p := ⟨g260, 2, none⟩) (Kd.R_far (p := ⟨g260, 1, none⟩) (Kd.R_far (p := ⟨g260, 0, none⟩) (Kd.R_types HO_7.out BK260.out (by decide)) (fun _ hk => hk.2) (.int .i64 q0)) (fun _ hk => hk.2) (.int .i64 q1)) (fun _ hk => hk.2) (.slice A0_2 l0_2.length c0_2)) (fun _ hk => hk.2) (.int .i64 q3)) (fun _ hk => hk.2) (.int .i64 q4)) (fun _ hk => hk.2) (.int .i64 q5)) (fun _ hk => hk.2) (.int .i64 q6)) (fun _ hk => hk.2) (.int .i64 q7)) (fun _ hk => hk.2) (.int .i64 q8)) (fun _ hk => hk.2) (.int .i64 x8_2)) (fun _ hk => trivial)⟩
                          have n1_ : Aside0 (((((((((((w82.setCell ⟨g260, 0, none⟩ (.int .i64 q0)).setCell ⟨g260, 1, none⟩ (.int .i64 q1)).setCell ⟨g260, 2, none⟩ (.slice A0_2 l0_2.length c0_2)).setCell ⟨g260, 3, none⟩ (.int .i64 q3)).setCell ⟨g260, 4, none⟩ (.int .i64 q4)).setCell ⟨g260, 5, none⟩ (.int .i64 q5)).setCell ⟨g260, 6, none⟩ (.int .i64 q6)).setCell ⟨g260, 7, none⟩ (.int .i64 q7)).setCell ⟨g260, 8, none⟩ (.int .i64 q8)).setCell ⟨g260, 8, none⟩ (.int .i64 x8_2)).heap[g239]? = some (.cells #[.int .i64 q0, .int .i64 q1, .slice A0_2 l0_2.length c0_2, .int .i64 q3, .int .i64 q4, .int .i64 q5, .int .i64 q6, .int .i64 q7, .int .i64 q8] 24 (0, 0))) := ⟨by (with_reducible repeat (first | refine blk_drewN ?_ _ | refine blk_drew ?_ | refine blk_alloc ?_ _)); refine blk_far ?_ NB239_260.out _; (with_reducible repeat (first | refine blk_drewN ?_ _ | refine blk_drew ?_ | refine blk_alloc ?_ _)); refine blk_far ?_ NB239_260.out _; (with_reducible repeat (first | refine blk_drewN ?_ _ | refine blk_drew ?_ | refine blk_alloc ?_ _)); refine blk_far ?_ NB239_260.out _; (with_reducible repeat (first | refine blk_drewN ?_ _ | refine blk_drew ?_ | refine blk_alloc ?_ _)); refine blk_far ?_ NB239_260.out _; (with_reducible repeat (first | refine blk_drewN ?_ _ | refine blk_drew ?_ | refine blk_alloc ?_ _)); refine blk_far ?_ NB239_260.out _; (with_reducible repeat (first | refine blk_drewN ?_ _ | refine blk_drew ?_ | refine blk_alloc ?_ _)); refine blk_far ?_ NB239_260.out _; (with_reducible repeat (first | refine blk_drewN ?_ _ | refine blk_drew ?_ | refine blk_alloc ?_ _)); refine blk_far ?_ NB239_260.out _; (with_reducible repeat (first | refine blk_drewN ?_ _ | refine blk_drew ?_ | refine blk_alloc ?_ _)); refine blk_far ?_ NB239_260.out _; (with_reducible repeat (first | refine blk_drewN ?_ _ | refine blk_drew ?_ | refine blk_alloc ?_ _)); refine blk_far ?_ NB239_260.out _; (with_reducible repeat (first | refine blk_drewN ?_ _ | refine blk_drew ?_ | refine blk_alloc ?_ _)); refine blk_far ?_ NB239_260.out _; (with_reducible repeat (first | refine blk_drewN ?_ _ | refine blk_drew ?_ | refine blk_alloc ?_ _)); exact BK239.out⟩
                          have n2_ : Aside0 (((((((((((w82.setCell ⟨g260, 0, none⟩ (.int .i64 q0)).setCell ⟨g260, 1, none⟩ (.int .i64 q1)).setCell ⟨g260, 2, none⟩ (.slice A0_2 l0_2.length c0_2)).setCell ⟨g260, 3, none⟩ (.int .i64 q3)).setCell ⟨g260, 4, none⟩ (.int .i64 q4)).setCell ⟨g260, 5, none⟩ (.int .i64 q5)).setCell ⟨g260, 6, none⟩ (.int .i64 q6)).setCell ⟨g260, 7, none⟩ (.int .i64 q7)).setCell ⟨g260, 8, none⟩ (.int .i64 q8)).setCell ⟨g260, 8, none⟩ (.int .i64 x8_2)).heap[g260]? = some (.cells #[.int .i64 q0, .int .i64 q1, .slice A0_2 l0_2.length c0_2, .int .i64 q3, .int .i64 q4, .int .i64 q5, .int .i64 q6, .int .i64 q7, .int .i64 x8_2] 24 (0, 0))) := ⟨by (with_reducible repeat (first | refine blk_drewN ?_ _ | refine blk_drew ?_ | refine blk_alloc ?_ _)); refine blk_put (cs := #[.int .i64 q0, .int .i64 q1, .slice A0_2 l0_2.length c0_2, .int .i64 q3, .int .i64 q4, .int .i64 q5, .int .i64 q6, .int .i64 q7, .int .i64 q8]) ?_ 8 _ rfl; (with_reducible repeat (first | refine blk_drewN ?_ _ | refine blk_drew ?_ | refine blk_alloc ?_ _)); refine blk_put (cs := #[.int .i64 q0, .int .i64 q1, .slice A0_2 l0_2.length c0_2, .int .i64 q3, .int .i64 q4, .int .i64 q5, .int .i64 q6, .int .i64 q7, .int .i64 0]) ?_ 8 _ rfl; (with_reducible repeat (first | refine blk_drewN ?_ _ | refine blk_drew ?_ | refine blk_alloc ?_ _)); refine blk_put (cs := #[.int .i64 q0, .int .i64 q1, .slice A0_2 l0_2.length c0_2, .int .i64 q3, .int .i64 q4, .int .i64 q5, .int .i64 q6, .int .i64 0, .int .i64 0]) ?_ 7 _ rfl; (with_reducible repeat (first | refine blk_drewN ?_ _ | refine blk_drew ?_ | refine blk_alloc ?_ _)); refine blk_put (cs := #[.int .i64 q0, .int .i64 q1, .slice A0_2 l0_2.length c0_2, .int .i64 q3, .int .i64 q4, .int .i64 q5, .int .i64 0, .int .i64 0, .int .i64 0]) ?_ 6 _ rfl; (with_reducible repeat (first | refine blk_drewN ?_ _ | refine blk_drew ?_ | refine blk_alloc ?_ _)); refine blk_put (cs := #[.int .i64 q0, .int .i64 q1, .slice A0_2 l0_2.length c0_2, .int .i64 q3, .int .i64 q4, .int .i64 0, .int .i64 0, .int .i64 0, .int .i64 0]) ?_ 5 _ rfl; (with_reducible repeat (first | refine blk_drewN ?_ _ | refine blk_drew ?_ | refine blk_alloc ?_ _)); refine blk_put (cs := #[.int .i64 q0, .int .i64 q1, .slice A0_2 l0_2.length c0_2, .int .i64 q3, .int .i64 0, .int .i64 0, .int .i64 0, .int .i64 0, .int .i64 0]) ?_ 4 _ rfl; (with_reducible repeat (first | refine blk_drewN ?_ _ | refine blk_drew ?_ | refine blk_alloc ?_ _)); refine blk_put (cs := #[.int .i64 q0, .int .i64 q1, .slice A0_2 l0_2.length c0_2, .int .i64 0, .int .i64 0, .int .i64 0, .int .i64 0, .int .i64 0, .int .i64 0]) ?_ 3 _ rfl; (with_reducible repeat (first | refine blk_drewN ?_ _ | refine blk_drew ?_ | refine blk_alloc ?_ _)); refine blk_put (cs := #[.int .i64 q0, .int .i64 q1, .slice none 0 0, .int .i64 0, .int .i64 0, .int .i64 0, .int .i64 0, .int .i64 0, .int .i64 0]) ?_ 2 _ rfl; (with_reducible repeat (first | refine blk_drewN ?_ _ | refine blk_drew ?_ | refine blk_alloc ?_ _)); refine blk_put (cs := #[.int .i64 q0, .int .i64 0, .slice none 0 0, .int .i64 0, .int .i64 0, .int .i64 0, .int .i64 0, .int .i64 0, .int .i64 0]) ?_ 1 _ rfl; (with_reducible repeat (first | refine blk_drewN ?_ _ | refine blk_drew ?_ | refine blk_alloc ?_ _)); refine blk_put (cs := #[.int .i64 0, .int .i64 0, .slice none 0 0, .int .i64 0, .int .i64 0, .int .i64 0, .int .i64 0, .int .i64 0, .int .i64 0]) ?_ 0 _ rfl; (with_reducible repeat (first | refine blk_drewN ?_ _ | refine blk_drew ?_ | refine blk_alloc ?_ _)); exact BK260.out⟩
                          have n3_ : Aside0 (Below w.heap.size w ((((((((((w82.setCell ⟨g260, 0, none⟩ (.int .i64 q0)).setCell ⟨g260, 1, none⟩ (.int .i64 q1)).setCell ⟨g260, 2, none⟩ (.slice A0_2 l0_2.length c0_2)).setCell ⟨g260, 3, none⟩ (.int .i64 q3)).setCell ⟨g260, 4, none⟩ (.int .i64 q4)).setCell ⟨g260, 5, none⟩ (.int .i64 q5)).setCell ⟨g260, 6, none⟩ (.int .i64 q6)).setCell ⟨g260, 7, none⟩ (.int .i64 q7)).setCell ⟨g260, 8, none⟩ (.int .i64 q8)).setCell ⟨g260, 8, none⟩ (.int .i64 x8_2))) := ⟨by repeat (first | (with_reducible first | exact HB.out | apply below_alloc | apply pw_below_drewN | apply below_drew1 | refine below_set ?_ GE239.out | refine below_set ?_ GE260.out) | exact HB.out)⟩
                          (try clear HO_7)
                          (try clear BK239)
                          (try clear BK260)
                          (try clear HB)
                          generalize ((((((((((w82.setCell ⟨g260, 0, none⟩ (.int .i64 q0)).setCell ⟨g260, 1, none⟩ (.int .i64 q1)).setCell ⟨g260, 2, none⟩ (.slice A0_2 l0_2.length c0_2)).setCell ⟨g260, 3, none⟩ (.int .i64 q3)).setCell ⟨g260, 4, none⟩ (.int .i64 q4)).setCell ⟨g260, 5, none⟩ (.int .i64 q5)).setCell ⟨g260, 6, none⟩ (.int .i64 q6)).setCell ⟨g260, 7, none⟩ (.int .i64 q7)).setCell ⟨g260, 8, none⟩ (.int .i64 q8)).setCell ⟨g260, 8, none⟩ (.int .i64 x8_2)) = w85 at n0_ n1_ n2_ n3_ ⊢
                          have HO_7 := n0_
                          have BK239 := n1_
                          have BK260 := n2_
                          have HB := n3_
                          clear n0_ n1_ n2_ n3_
                          have n0_ := Aside0.mk (Kd.R_drew HO_7.out)
                          have n1_ := Aside0.mk (blk_drew BK239.out)
                          have n2_ := Aside0.mk (blk_drew BK260.out)
                          have n3_ := Aside0.mk (below_drew1 HB.out)
                          clear HO_7
                          clear BK239
                          clear BK260
                          clear HB
                          have HO_7 := n0_
                          have BK239 := n1_
                          have BK260 := n2_
                          have HB := n3_
                          clear n0_ n1_ n2_ n3_
                          refine start_ (n := 38) (S := fun w' => w'.cell? ⟨g260, 0, none⟩ = some (.int .i64 q0) ∧ w'.cell? ⟨g260, 1, none⟩ = some (.int .i64 q1) ∧ w'.cell? ⟨g260, 2, none⟩ = some (.slice A0_2 l0_2.length c0_2) ∧ w'.cell? ⟨g260, 3, none⟩ = some (.int .i64 q3) ∧ w'.cell? ⟨g260, 4, none⟩ = some (.int .i64 q4) ∧ w'.cell? ⟨g260, 5, none⟩ = some (.int .i64 q5) ∧ w'.cell? ⟨g260, 6, none⟩ = some (.int .i64 q6) ∧ w'.cell? ⟨g260, 7, none⟩ = some (.int .i64 q7) ∧ w'.cell? ⟨g260, 8, none⟩ = some (.int .i64 x8_2) ∧ w'.cell? ⟨g239, 0, none⟩ = some (.int .i64 q0) ∧ w'.cell? ⟨g239, 1, none⟩ = some (.int .i64 q1) ∧ w'.cell? ⟨g239, 2, none⟩ = some (.slice A0_2 l0_2.length c0_2) ∧ w'.cell? ⟨g239, 3, none⟩ = some (.int .i64 q3) ∧ w'.cell? ⟨g239, 4, none⟩ = some (.int .i64 q4) ∧ w'.cell? ⟨g239, 5, none⟩ = some (.int .i64 q5) ∧ w'.cell? ⟨g239, 6, none⟩ = some (.int .i64 q6) ∧ w'.cell? ⟨g239, 7, none⟩ = some (.int .i64 q7) ∧ w'.cell? ⟨g239, 8, none⟩ = some (.int .i64 q8)) (ds := []) (pbn 38 38) (by kernel_rfl) rfl rfl ⟨(blk_cell BK260.out 0).trans rfl, (blk_cell BK260.out 1).trans rfl, (blk_cell BK260.out 2).trans rfl, (blk_cell BK260.out 3).trans rfl, (blk_cell BK260.out 4).trans rfl, (blk_cell BK260.out 5).trans rfl, (blk_cell BK260.out 6).trans rfl, (blk_cell BK260.out 7).trans rfl, (blk_cell BK260.out 8).trans rfl, (blk_cell BK239.out 0).trans rfl, (blk_cell BK239.out 1).trans rfl, (blk_cell BK239.out 2).trans rfl, (blk_cell BK239.out 3).trans rfl, (blk_cell BK239.out 4).trans rfl, (blk_cell BK239.out 5).trans rfl, (blk_cell BK239.out 6).trans rfl, (blk_cell BK239.out 7).trans rfl, (blk_cell BK239.out 8).trans rfl⟩ (fun hHeld => ?_); refine with_tabW pylonlaw26_UnitConcatenation.tab13 pylonlaw26_UnitConcatenation.bits13 (fun HT_ HW_ => ?_)
                          generalize w85.drew = w86 at HO_7 BK239 BK260 HB hHeld ⊢
                          (refine takeAt (n := 38) (v := ?_) (a' := ?_) rfl rfl rfl (take_ofW HT_.out HW_.out (by kernel_rfl)) (fun _ _ _ h => h) (Or.inl ⟨by rfl, ?_⟩) hHeld ?_ ?_; rotate_left; (focus (rintro w' ⟨s0, s1, s2, s3, s4, s5, s6, s7, s8, s9, s10, s11, s12, s13, s14, s15, s16, s17⟩; go_simp; with_reducible rfl)); rotate_left; (focus (simp only [Act.put, List.setIfInBounds_toArray, List.set_cons_zero, List.set_cons_succ, i64_w, i32_w]; rfl)))
                          refine one_ (i := 1) (N := some 64) (pbn 38 36) rfl rfl (one_of HT_.out (by kernel_rfl)) (by decide) (fun K hK => ?_)
                          refine goes_ Try.func21 (by kernel_rfl) rfl #[.agg #[.int .i64 q0, .int .i64 q1, .slice A0_2 l0_2.length c0_2, .int .i64 q3, .int .i64 q4, .int .i64 q5, .int .i64 q6, .int .i64 q7, .int .i64 x8_2]] (by rfl) rfl rfl (by (try simp only [List.map_toArray, List.map_cons, List.map_nil]); first | done | rfl | (simp only [List.length_drop, List.length_take]; rfl)) ?_
                          with_reducible refine (pylonlaw26_may.calls k2 q0 q1 _ _ l0_2 q3 q4 q5 q6 q7 x8_2 true _ ?side1 ?side2 A53.out).mono ?_
                          (case side1 => repeat (first | exact (Kd.C_below HR0_2.out HB.out) | (with_reducible refine Kd.C_alloc ?_ _) | (with_reducible refine Kd.C_drewN ?_ _) | (with_reducible refine Kd.C_drew ?_)))
                          (case side2 => exact HC0_2.out)
                          rintro e w87 ⟨rfl, hb⟩
                          refine ⟨_, rfl, ?_⟩
                          have n0_ := Aside0.mk (Kd.R_below (by (with_reducible repeat (first | apply Kd.R_alloc | apply Kd.R_drewN | apply Kd.R_drew)); exact HO_7.out) hb)
                          have n1_ := Aside0.mk (blk_below (g := g239) (o := .cells #[.int .i64 q0, .int .i64 q1, .slice A0_2 l0_2.length c0_2, .int .i64 q3, .int .i64 q4, .int .i64 q5, .int .i64 q6, .int .i64 q7, .int .i64 q8] 24 (0, 0)) (by (with_reducible repeat (first | refine blk_drewN ?_ _ | refine blk_drew ?_ | refine blk_alloc ?_ _)); exact BK239.out) hb)
                          have n2_ := Aside0.mk (blk_below (g := g260) (o := .cells #[.int .i64 q0, .int .i64 q1, .slice A0_2 l0_2.length c0_2, .int .i64 q3, .int .i64 q4, .int .i64 q5, .int .i64 q6, .int .i64 q7, .int .i64 x8_2] 24 (0, 0)) (by (with_reducible repeat (first | refine blk_drewN ?_ _ | refine blk_drew ?_ | refine blk_alloc ?_ _)); exact BK260.out) hb)
                          have n3_ := Aside0.mk (below_step (by repeat (first | (with_reducible first | exact HB.out | apply below_alloc | apply pw_below_drewN | apply below_drew1 | refine below_set ?_ GE239.out | refine below_set ?_ GE260.out) | exact HB.out)) hb)
                          clear HO_7
                          clear BK239
                          clear BK260
                          clear HB
                          have HO_7 := n0_
                          have BK239 := n1_
                          have BK260 := n2_
                          have HB := n3_
                          clear n0_ n1_ n2_ n3_
                          (try clear hb)
                          (try clear hb2)
                          (try clear hk)
                          (try clear hi)
                          obtain ⟨Ao88, co88, eo88⟩ := Kd.R_slice HO_7.out
                          (first | subst eo88 | (injection eo88 with f1_ f2_ f3_; have f4_ := f1_.symm; have f5_ := f3_.symm; clear f1_ f2_ f3_; subst f4_; subst f5_))
                          refine hK.out _ _ ⟨(blk_cell BK260.out 0).trans rfl, (blk_cell BK260.out 1).trans rfl, (blk_cell BK260.out 2).trans rfl, (blk_cell BK260.out 3).trans rfl, (blk_cell BK260.out 4).trans rfl, (blk_cell BK260.out 5).trans rfl, (blk_cell BK260.out 6).trans rfl, (blk_cell BK260.out 7).trans rfl, (blk_cell BK260.out 8).trans rfl, (blk_cell BK239.out 0).trans rfl, (blk_cell BK239.out 1).trans rfl, (blk_cell BK239.out 2).trans rfl, (blk_cell BK239.out 3).trans rfl, (blk_cell BK239.out 4).trans rfl, (blk_cell BK239.out 5).trans rfl, (blk_cell BK239.out 6).trans rfl, (blk_cell BK239.out 7).trans rfl, (blk_cell BK239.out 8).trans rfl⟩ (fun hHeld => ?_)
                          clear hK K
                          refine norm_ (a' := ?_) ?_ ?_
                          rotate_left
                          · show Act.put _ (some 64) _ = _
                            simp only [Act.put, List.setIfInBounds_toArray, List.set_cons_zero, List.set_cons_succ, i64_w, i32_w]
                            rfl
                          (refine pureAt (n := 38) (v := ?_) (a' := ?_) rfl rfl rfl (any_of HT_.out (by kernel_rfl)) (fun _ _ _ h => h) (Or.inl ⟨by rfl, ?_⟩) ?_ ?_; rotate_left; (focus (intro w'; go_simp; with_reducible rfl)); rotate_left; (focus (simp only [Act.put, List.setIfInBounds_toArray, List.set_cons_zero, List.set_cons_succ, i64_w, i32_w]; rfl)))
                          refine pure_ (i := 4) (N := some 67) (v := ?_) (a' := ?_) #[true, true, true, false, true, false, false, false, false, false, false, false, false, false, false, false, false, false, false, false, false, false, false, false, false, false, false, false, false, false, false, false, false, false, false, false, false, false] rfl rfl (any_of HT_.out (by kernel_rfl)) (fun _ _ _ h => h) (Or.inl ⟨by rfl, ?_⟩) ?_ ?_
                          rotate_left
                          · intro w'
                            go_simp
                            with_reducible rfl
                          rotate_left
                          · simp only [Act.put, List.setIfInBounds_toArray, List.set_cons_zero, List.set_cons_succ, i64_w, i32_w]
                            rfl
                          refine pure_ (i := 7) (N := some 70) (v := ?_) (a' := ?_) #[true, true, true, false, true, false, false, true, false, false, false, false, false, false, false, false, false, false, false, false, false, false, false, false, false, false, false, false, false, false, false, false, false, false, false, false, false, false] rfl rfl (any_of HT_.out (by kernel_rfl)) (fun _ _ _ h => h) (Or.inl ⟨by rfl, ?_⟩) ?_ ?_
                          rotate_left
                          · intro w'
                            go_simp
                            with_reducible rfl
                          rotate_left
                          · simp only [Act.put, List.setIfInBounds_toArray, List.set_cons_zero, List.set_cons_succ, i64_w, i32_w]
                            rfl
                          refine take_ (i := 3) (N := some 66) (v := ?_) (a' := ?_) #[true, true, true, true, true, false, false, true, false, false, false, false, false, false, false, false, false, false, false, false, false, false, false, false, false, false, false, false, false, false, false, false, false, false, false, false, false, false] rfl rfl (take_ofW HT_.out HW_.out (by kernel_rfl)) (fun _ _ _ h => h) (Or.inl ⟨by rfl, ?_⟩) hHeld ?_ ?_
                          rotate_left
                          · rintro w' ⟨s0, s1, s2, s3, s4, s5, s6, s7, s8, s9, s10, s11, s12, s13, s14, s15, s16, s17⟩
                            go_simp
                            with_reducible rfl
                          rotate_left
                          · simp only [Act.put, List.setIfInBounds_toArray, List.set_cons_zero, List.set_cons_succ, i64_w, i32_w]
                            rfl
                          refine take_ (i := 6) (N := some 69) (v := ?_) (a' := ?_) #[true, true, true, true, true, false, true, true, false, false, false, false, false, false, false, false, false, false, false, false, false, false, false, false, false, false, false, false, false, false, false, false, false, false, false, false, false, false] rfl rfl (take_ofW HT_.out HW_.out (by kernel_rfl)) (fun _ _ _ h => h) (Or.inl ⟨by rfl, ?_⟩) hHeld ?_ ?_
                          rotate_left
                          · rintro w' ⟨s0, s1, s2, s3, s4, s5, s6, s7, s8, s9, s10, s11, s12, s13, s14, s15, s16, s17⟩
                            go_simp
                            with_reducible rfl
                          rotate_left
                          · simp only [Act.put, List.setIfInBounds_toArray, List.set_cons_zero, List.set_cons_succ, i64_w, i32_w]
                            rfl
                          refine one_ (i := 5) (N := some 68) (pbn 38 30) rfl rfl (one_of HT_.out (by kernel_rfl)) (by decide) (fun K hK => ?_)
                          refine goes_ Try.func22 (by kernel_rfl) rfl #[.agg #[.int .i64 q0, .int .i64 q1, .slice A0_2 l0_2.length c0_2, .int .i64 q3, .int .i64 q4, .int .i64 q5, .int .i64 q6, .int .i64 q7, .int .i64 q8], .slice Ao88 y251.length co88] (by rfl) rfl rfl (by (try simp only [List.map_toArray, List.map_cons, List.map_nil]); first | done | rfl | (simp only [List.length_drop, List.length_take]; rfl)) ?_
                          with_reducible refine (unit_Feasible.calls k2 q0 q1 _ _ l0_2 q3 q4 q5 q6 q7 q8 _ _ y251 t262 _ ?side1 ?side2 ?side3 ?side4 A55.out).mono ?_
                          (case side1 => repeat (first | exact (Kd.C_below HR0_2.out HB.out) | (with_reducible refine Kd.C_alloc ?_ _) | (with_reducible refine Kd.C_drewN ?_ _) | (with_reducible refine Kd.C_drew ?_)))
                          (case side2 => exact HC0_2.out)
                          (case side3 => repeat (first | exact (Kd.R_reads' HO_7.out).2.2 | (with_reducible refine Kd.C_alloc ?_ _) | (with_reducible refine Kd.C_drewN ?_ _) | (with_reducible refine Kd.C_drew ?_)))
                          (case side4 => exact (Kd.R_reads' HO_7.out).2.1)
                          rintro e w89 ⟨rfl, hb⟩
                          refine ⟨_, rfl, ?_⟩
                          have n0_ := Aside0.mk (Kd.R_below (by (with_reducible repeat (first | apply Kd.R_alloc | apply Kd.R_drewN | apply Kd.R_drew)); exact HO_7.out) hb)
                          have n1_ := Aside0.mk (blk_below (g := g239) (o := .cells #[.int .i64 q0, .int .i64 q1, .slice A0_2 l0_2.length c0_2, .int .i64 q3, .int .i64 q4, .int .i64 q5, .int .i64 q6, .int .i64 q7, .int .i64 q8] 24 (0, 0)) (by (with_reducible repeat (first | refine blk_drewN ?_ _ | refine blk_drew ?_ | refine blk_alloc ?_ _)); exact BK239.out) hb)
                          have n2_ := Aside0.mk (blk_below (g := g260) (o := .cells #[.int .i64 q0, .int .i64 q1, .slice A0_2 l0_2.length c0_2, .int .i64 q3, .int .i64 q4, .int .i64 q5, .int .i64 q6, .int .i64 q7, .int .i64 x8_2] 24 (0, 0)) (by (with_reducible repeat (first | refine blk_drewN ?_ _ | refine blk_drew ?_ | refine blk_alloc ?_ _)); exact BK260.out) hb)
                          have n3_ := Aside0.mk (below_step (by repeat (first | (with_reducible first | exact HB.out | apply below_alloc | apply pw_below_drewN | apply below_drew1 | refine below_set ?_ GE239.out | refine below_set ?_ GE260.out) | exact HB.out)) hb)
                          clear HO_7
                          clear BK239
                          clear BK260
                          clear HB
                          have HO_7 := n0_
                          have BK239 := n1_
                          have BK260 := n2_
                          have HB := n3_
                          clear n0_ n1_ n2_ n3_
                          (try clear hb)
                          (try clear hb2)
                          (try clear hk)
                          (try clear hi)
                          refine hK.out _ _ ⟨(blk_cell BK260.out 0).trans rfl, (blk_cell BK260.out 1).trans rfl, (blk_cell BK260.out 2).trans rfl, (blk_cell BK260.out 3).trans rfl, (blk_cell BK260.out 4).trans rfl, (blk_cell BK260.out 5).trans rfl, (blk_cell BK260.out 6).trans rfl, (blk_cell BK260.out 7).trans rfl, (blk_cell BK260.out 8).trans rfl, (blk_cell BK239.out 0).trans rfl, (blk_cell BK239.out 1).trans rfl, (blk_cell BK239.out 2).trans rfl, (blk_cell BK239.out 3).trans rfl, (blk_cell BK239.out 4).trans rfl, (blk_cell BK239.out 5).trans rfl, (blk_cell BK239.out 6).trans rfl, (blk_cell BK239.out 7).trans rfl, (blk_cell BK239.out 8).trans rfl⟩ (fun hHeld => ?_)
                          clear hK K
                          refine norm_ (a' := ?_) ?_ ?_
                          rotate_left
                          · show Act.put _ (some 68) _ = _
                            simp only [Act.put, List.setIfInBounds_toArray, List.set_cons_zero, List.set_cons_succ, i64_w, i32_w]
                            rfl
                          refine one_ (i := 8) (N := some 71) (pbn 38 29) rfl rfl (one_of HT_.out (by kernel_rfl)) (by decide) (fun K hK => ?_)
                          refine goes_ Try.func22 (by kernel_rfl) rfl #[.agg #[.int .i64 q0, .int .i64 q1, .slice A0_2 l0_2.length c0_2, .int .i64 q3, .int .i64 q4, .int .i64 q5, .int .i64 q6, .int .i64 q7, .int .i64 x8_2], .slice A2 l2.length c2] (by rfl) rfl rfl (by (try simp only [List.map_toArray, List.map_cons, List.map_nil]); first | done | rfl | (simp only [List.length_drop, List.length_take]; rfl)) ?_
                          with_reducible refine (unit_Feasible.calls k2 q0 q1 _ _ l0_2 q3 q4 q5 q6 q7 x8_2 _ _ l2 t263 _ ?side1 ?side2 ?side3 ?side4 A56.out).mono ?_
                          (case side1 => repeat (first | exact (Kd.C_below HR0_2.out HB.out) | (with_reducible refine Kd.C_alloc ?_ _) | (with_reducible refine Kd.C_drewN ?_ _) | (with_reducible refine Kd.C_drew ?_)))
                          (case side2 => exact HC0_2.out)
                          (case side3 => repeat (first | exact (Kd.C_below HR2.out HB.out) | (with_reducible refine Kd.C_alloc ?_ _) | (with_reducible refine Kd.C_drewN ?_ _) | (with_reducible refine Kd.C_drew ?_)))
                          (case side4 => exact HC2.out)
                          rintro e w90 ⟨rfl, hb⟩
                          refine ⟨_, rfl, ?_⟩
                          have n0_ := Aside0.mk (Kd.R_below (by (with_reducible repeat (first | apply Kd.R_alloc | apply Kd.R_drewN | apply Kd.R_drew)); exact HO_7.out) hb)
                          have n1_ := Aside0.mk (blk_below (g := g239) (o := .cells #[.int .i64 q0, .int .i64 q1, .slice A0_2 l0_2.length c0_2, .int .i64 q3, .int .i64 q4, .int .i64 q5, .int .i64 q6, .int .i64 q7, .int .i64 q8] 24 (0, 0)) (by (with_reducible repeat (first | refine blk_drewN ?_ _ | refine blk_drew ?_ | refine blk_alloc ?_ _)); exact BK239.out) hb)
                          have n2_ := Aside0.mk (blk_below (g := g260) (o := .cells #[.int .i64 q0, .int .i64 q1, .slice A0_2 l0_2.length c0_2, .int .i64 q3, .int .i64 q4, .int .i64 q5, .int .i64 q6, .int .i64 q7, .int .i64 x8_2] 24 (0, 0)) (by (with_reducible repeat (first | refine blk_drewN ?_ _ | refine blk_drew ?_ | refine blk_alloc ?_ _)); exact BK260.out) hb)
                          have n3_ := Aside0.mk (below_step (by repeat (first | (with_reducible first | exact HB.out | apply below_alloc | apply pw_below_drewN | apply below_drew1 | refine below_set ?_ GE239.out | refine below_set ?_ GE260.out) | exact HB.out)) hb)
                          clear HO_7
                          clear BK239
                          clear BK260
                          clear HB
                          have HO_7 := n0_
                          have BK239 := n1_
                          have BK260 := n2_
                          have HB := n3_
                          clear n0_ n1_ n2_ n3_
                          (try clear hb)
                          (try clear hb2)
                          (try clear hk)
                          (try clear hi)
                          refine hK.out _ _ ⟨(blk_cell BK260.out 0).trans rfl, (blk_cell BK260.out 1).trans rfl, (blk_cell BK260.out 2).trans rfl, (blk_cell BK260.out 3).trans rfl, (blk_cell BK260.out 4).trans rfl, (blk_cell BK260.out 5).trans rfl, (blk_cell BK260.out 6).trans rfl, (blk_cell BK260.out 7).trans rfl, (blk_cell BK260.out 8).trans rfl, (blk_cell BK239.out 0).trans rfl, (blk_cell BK239.out 1).trans rfl, (blk_cell BK239.out 2).trans rfl, (blk_cell BK239.out 3).trans rfl, (blk_cell BK239.out 4).trans rfl, (blk_cell BK239.out 5).trans rfl, (blk_cell BK239.out 6).trans rfl, (blk_cell BK239.out 7).trans rfl, (blk_cell BK239.out 8).trans rfl⟩ (fun hHeld => ?_)
                          clear hK K
                          refine norm_ (a' := ?_) ?_ ?_
                          rotate_left
                          · show Act.put _ (some 71) _ = _
                            simp only [Act.put, List.setIfInBounds_toArray, List.set_cons_zero, List.set_cons_succ, i64_w, i32_w]
                            rfl
                          iterate 3 ((refine pureAt (n := 38) (v := ?_) (a' := ?_) rfl rfl rfl (any_of HT_.out (by kernel_rfl)) (fun _ _ _ h => h) (Or.inl ⟨by rfl, ?_⟩) ?_ ?_; rotate_left; (focus (intro w'; go_simp; with_reducible rfl)); rotate_left; (focus (simp only [Act.put, List.setIfInBounds_toArray, List.set_cons_zero, List.set_cons_succ, i64_w, i32_w]; rfl))))
                          refine pure_ (i := 13) (N := some 76) (v := ?_) (a' := ?_) #[true, true, true, true, true, true, true, true, true, true, true, true, false, true, false, false, false, false, false, false, false, false, false, false, false, false, false, false, false, false, false, false, false, false, false, false, false, false] rfl rfl (any_of HT_.out (by kernel_rfl)) (fun _ _ _ h => h) (Or.inl ⟨by rfl, ?_⟩) ?_ ?_
                          rotate_left
                          · intro w'
                            go_simp
                            with_reducible rfl
                          rotate_left
                          · simp only [Act.put, List.setIfInBounds_toArray, List.set_cons_zero, List.set_cons_succ, i64_w, i32_w]
                            rfl
                          refine pure_ (i := 16) (N := some 79) (v := ?_) (a' := ?_) #[true, true, true, true, true, true, true, true, true, true, true, true, false, true, false, false, true, false, false, false, false, false, false, false, false, false, false, false, false, false, false, false, false, false, false, false, false, false] rfl rfl (any_of HT_.out (by kernel_rfl)) (fun _ _ _ h => h) (Or.inl ⟨by rfl, ?_⟩) ?_ ?_
                          rotate_left
                          · intro w'
                            go_simp
                            with_reducible rfl
                          rotate_left
                          · simp only [Act.put, List.setIfInBounds_toArray, List.set_cons_zero, List.set_cons_succ, i64_w, i32_w]
                            rfl
                          refine pure_ (i := 19) (N := some 82) (v := ?_) (a' := ?_) #[true, true, true, true, true, true, true, true, true, true, true, true, false, true, false, false, true, false, false, true, false, false, false, false, false, false, false, false, false, false, false, false, false, false, false, false, false, false] rfl rfl (any_of HT_.out (by kernel_rfl)) (fun _ _ _ h => h) (Or.inl ⟨by rfl, ?_⟩) ?_ ?_
                          rotate_left
                          · intro w'
                            go_simp
                            with_reducible rfl
                          rotate_left
                          · simp only [Act.put, List.setIfInBounds_toArray, List.set_cons_zero, List.set_cons_succ, i64_w, i32_w]
                            rfl
                          refine take_ (i := 12) (N := some 75) (v := ?_) (a' := ?_) #[true, true, true, true, true, true, true, true, true, true, true, true, true, true, false, false, true, false, false, true, false, false, false, false, false, false, false, false, false, false, false, false, false, false, false, false, false, false] rfl rfl (take_ofW HT_.out HW_.out (by kernel_rfl)) (fun _ _ _ h => h) (Or.inl ⟨by rfl, ?_⟩) hHeld ?_ ?_
                          rotate_left
                          · rintro w' ⟨s0, s1, s2, s3, s4, s5, s6, s7, s8, s9, s10, s11, s12, s13, s14, s15, s16, s17⟩
                            go_simp
                            with_reducible rfl
                          rotate_left
                          · simp only [Act.put, List.setIfInBounds_toArray, List.set_cons_zero, List.set_cons_succ, i64_w, i32_w]
                            rfl
                          refine take_ (i := 15) (N := some 78) (v := ?_) (a' := ?_) #[true, true, true, true, true, true, true, true, true, true, true, true, true, true, false, true, true, false, false, true, false, false, false, false, false, false, false, false, false, false, false, false, false, false, false, false, false, false] rfl rfl (take_ofW HT_.out HW_.out (by kernel_rfl)) (fun _ _ _ h => h) (Or.inl ⟨by rfl, ?_⟩) hHeld ?_ ?_
                          rotate_left
                          · rintro w' ⟨s0, s1, s2, s3, s4, s5, s6, s7, s8, s9, s10, s11, s12, s13, s14, s15, s16, s17⟩
                            go_simp
                            with_reducible rfl
                          rotate_left
                          · simp only [Act.put, List.setIfInBounds_toArray, List.set_cons_zero, List.set_cons_succ, i64_w, i32_w]
                            rfl
                          refine take_ (i := 18) (N := some 81) (v := ?_) (a' := ?_) #[true, true, true, true, true, true, true, true, true, true, true, true, true, true, false, true, true, false, true, true, false, false, false, false, false, false, false, false, false, false, false, false, false, false, false, false, false, false] rfl rfl (take_ofW HT_.out HW_.out (by kernel_rfl)) (fun _ _ _ h => h) (Or.inl ⟨by rfl, ?_⟩) hHeld ?_ ?_
                          rotate_left
                          · rintro w' ⟨s0, s1, s2, s3, s4, s5, s6, s7, s8, s9, s10, s11, s12, s13, s14, s15, s16, s17⟩
                            go_simp
                            with_reducible rfl
                          rotate_left
                          · simp only [Act.put, List.setIfInBounds_toArray, List.set_cons_zero, List.set_cons_succ, i64_w, i32_w]
                            rfl
                          refine one_ (i := 14) (N := some 77) #[true, true, true, true, true, true, true, true, true, true, true, true, true, true, true, true, true, false, true, true, false, false, false, false, false, false, false, false, false, false, false, false, false, false, false, false, false, false] rfl rfl (one_of HT_.out (by kernel_rfl)) (by decide) (fun K hK => ?_)
                          refine goes_ Try.func25 (by kernel_rfl) rfl #[.agg #[.int .i64 q0, .int .i64 q1, .slice A0_2 l0_2.length c0_2, .int .i64 q3, .int .i64 q4, .int .i64 q5, .int .i64 q6, .int .i64 q7, .int .i64 q8], .slice Ao88 y251.length co88] (by rfl) rfl rfl (by (try simp only [List.map_toArray, List.map_cons, List.map_nil]); first | done | rfl | (simp only [List.length_drop, List.length_take]; rfl)) ?_
                          with_reducible refine (unit_Starts.calls k2 q0 q1 _ _ l0_2 q3 q4 q5 q6 q7 q8 _ _ y251 t264 _ ?side1 ?side2 ?side3 ?side4 A58.out).mono ?_
                          (case side1 => repeat (first | exact (Kd.C_below HR0_2.out HB.out) | (with_reducible refine Kd.C_alloc ?_ _) | (with_reducible refine Kd.C_drewN ?_ _) | (with_reducible refine Kd.C_drew ?_)))
                          (case side2 => exact HC0_2.out)
                          (case side3 => repeat (first | exact (Kd.R_reads' HO_7.out).2.2 | (with_reducible refine Kd.C_alloc ?_ _) | (with_reducible refine Kd.C_drewN ?_ _) | (with_reducible refine Kd.C_drew ?_)))
                          (case side4 => exact (Kd.R_reads' HO_7.out).2.1)
                          rintro e w91 ⟨rfl, hb⟩
                          refine ⟨_, rfl, ?_⟩
                          have n0_ := Aside0.mk (Kd.R_below (by (with_reducible repeat (first | apply Kd.R_alloc | apply Kd.R_drewN | apply Kd.R_drew)); exact HO_7.out) hb)
                          have n1_ := Aside0.mk (blk_below (g := g239) (o := .cells #[.int .i64 q0, .int .i64 q1, .slice A0_2 l0_2.length c0_2, .int .i64 q3, .int .i64 q4, .int .i64 q5, .int .i64 q6, .int .i64 q7, .int .i64 q8] 24 (0, 0)) (by (with_reducible repeat (first | refine blk_drewN ?_ _ | refine blk_drew ?_ | refine blk_alloc ?_ _)); exact BK239.out) hb)
                          have n2_ := Aside0.mk (blk_below (g := g260) (o := .cells #[.int .i64 q0, .int .i64 q1, .slice A0_2 l0_2.length c0_2, .int .i64 q3, .int .i64 q4, .int .i64 q5, .int .i64 q6, .int .i64 q7, .int .i64 x8_2] 24 (0, 0)) (by (with_reducible repeat (first | refine blk_drewN ?_ _ | refine blk_drew ?_ | refine blk_alloc ?_ _)); exact BK260.out) hb)
                          have n3_ := Aside0.mk (below_step (by repeat (first | (with_reducible first | exact HB.out | apply below_alloc | apply pw_below_drewN | apply below_drew1 | refine below_set ?_ GE239.out | refine below_set ?_ GE260.out) | exact HB.out)) hb)
                          clear HO_7
                          clear BK239
                          clear BK260
                          clear HB
                          have HO_7 := n0_
                          have BK239 := n1_
                          have BK260 := n2_
                          have HB := n3_
                          clear n0_ n1_ n2_ n3_
                          (try clear hb)
                          (try clear hb2)
                          (try clear hk)
                          (try clear hi)
                          refine hK.out _ _ ⟨(blk_cell BK260.out 0).trans rfl, (blk_cell BK260.out 1).trans rfl, (blk_cell BK260.out 2).trans rfl, (blk_cell BK260.out 3).trans rfl, (blk_cell BK260.out 4).trans rfl, (blk_cell BK260.out 5).trans rfl, (blk_cell BK260.out 6).trans rfl, (blk_cell BK260.out 7).trans rfl, (blk_cell BK260.out 8).trans rfl, (blk_cell BK239.out 0).trans rfl, (blk_cell BK239.out 1).trans rfl, (blk_cell BK239.out 2).trans rfl, (blk_cell BK239.out 3).trans rfl, (blk_cell BK239.out 4).trans rfl, (blk_cell BK239.out 5).trans rfl, (blk_cell BK239.out 6).trans rfl, (blk_cell BK239.out 7).trans rfl, (blk_cell BK239.out 8).trans rfl⟩ (fun hHeld => ?_)
                          clear hK K
                          refine norm_ (a' := ?_) ?_ ?_
                          rotate_left
                          · show Act.put _ (some 77) _ = _
                            simp only [Act.put, List.setIfInBounds_toArray, List.set_cons_zero, List.set_cons_succ, i64_w, i32_w]
                            rfl
                          refine one_ (i := 17) (N := some 80) (pbn 38 18) rfl rfl (one_of HT_.out (by kernel_rfl)) (by decide) (fun K hK => ?_)
                          refine goes_ Try.func25 (by kernel_rfl) rfl #[.agg #[.int .i64 q0, .int .i64 q1, .slice A0_2 l0_2.length c0_2, .int .i64 q3, .int .i64 q4, .int .i64 q5, .int .i64 q6, .int .i64 q7, .int .i64 q8], .slice A1 l1.length c1] (by rfl) rfl rfl (by (try simp only [List.map_toArray, List.map_cons, List.map_nil]); first | done | rfl | (simp only [List.length_drop, List.length_take]; rfl)) ?_
                          with_reducible refine (unit_Starts.calls k2 q0 q1 _ _ l0_2 q3 q4 q5 q6 q7 q8 _ _ l1 t265 _ ?side1 ?side2 ?side3 ?side4 A59.out).mono ?_
                          (case side1 => repeat (first | exact (Kd.C_below HR0_2.out HB.out) | (with_reducible refine Kd.C_alloc ?_ _) | (with_reducible refine Kd.C_drewN ?_ _) | (with_reducible refine Kd.C_drew ?_)))
                          (case side2 => exact HC0_2.out)
                          (case side3 => repeat (first | exact (Kd.C_below HR1.out HB.out) | (with_reducible refine Kd.C_alloc ?_ _) | (with_reducible refine Kd.C_drewN ?_ _) | (with_reducible refine Kd.C_drew ?_)))
                          (case side4 => exact HC1.out)
                          rintro e w92 ⟨rfl, hb⟩
                          refine ⟨_, rfl, ?_⟩
                          have n0_ := Aside0.mk (Kd.R_below (by (with_reducible repeat (first | apply Kd.R_alloc | apply Kd.R_drewN | apply Kd.R_drew)); exact HO_7.out) hb)
                          have n1_ := Aside0.mk (blk_below (g := g239) (o := .cells #[.int .i64 q0, .int .i64 q1, .slice A0_2 l0_2.length c0_2, .int .i64 q3, .int .i64 q4, .int .i64 q5, .int .i64 q6, .int .i64 q7, .int .i64 q8] 24 (0, 0)) (by (with_reducible repeat (first | refine blk_drewN ?_ _ | refine blk_drew ?_ | refine blk_alloc ?_ _)); exact BK239.out) hb)
                          have n2_ := Aside0.mk (blk_below (g := g260) (o := .cells #[.int .i64 q0, .int .i64 q1, .slice A0_2 l0_2.length c0_2, .int .i64 q3, .int .i64 q4, .int .i64 q5, .int .i64 q6, .int .i64 q7, .int .i64 x8_2] 24 (0, 0)) (by (with_reducible repeat (first | refine blk_drewN ?_ _ | refine blk_drew ?_ | refine blk_alloc ?_ _)); exact BK260.out) hb)
                          have n3_ := Aside0.mk (below_step (by repeat (first | (with_reducible first | exact HB.out | apply below_alloc | apply pw_below_drewN | apply below_drew1 | refine below_set ?_ GE239.out | refine below_set ?_ GE260.out) | exact HB.out)) hb)
                          clear HO_7
                          clear BK239
                          clear BK260
                          clear HB
                          have HO_7 := n0_
                          have BK239 := n1_
                          have BK260 := n2_
                          have HB := n3_
                          clear n0_ n1_ n2_ n3_
                          (try clear hb)
                          (try clear hb2)
                          (try clear hk)
                          (try clear hi)
                          refine hK.out _ _ ⟨(blk_cell BK260.out 0).trans rfl, (blk_cell BK260.out 1).trans rfl, (blk_cell BK260.out 2).trans rfl, (blk_cell BK260.out 3).trans rfl, (blk_cell BK260.out 4).trans rfl, (blk_cell BK260.out 5).trans rfl, (blk_cell BK260.out 6).trans rfl, (blk_cell BK260.out 7).trans rfl, (blk_cell BK260.out 8).trans rfl, (blk_cell BK239.out 0).trans rfl, (blk_cell BK239.out 1).trans rfl, (blk_cell BK239.out 2).trans rfl, (blk_cell BK239.out 3).trans rfl, (blk_cell BK239.out 4).trans rfl, (blk_cell BK239.out 5).trans rfl, (blk_cell BK239.out 6).trans rfl, (blk_cell BK239.out 7).trans rfl, (blk_cell BK239.out 8).trans rfl⟩ (fun hHeld => ?_)
                          clear hK K
                          refine norm_ (a' := ?_) ?_ ?_
                          rotate_left
                          · show Act.put _ (some 80) _ = _
                            simp only [Act.put, List.setIfInBounds_toArray, List.set_cons_zero, List.set_cons_succ, i64_w, i32_w]
                            rfl
                          refine one_ (i := 20) (N := some 83) (pbn 38 17) rfl rfl (one_of HT_.out (by kernel_rfl)) (by decide) (fun K hK => ?_)
                          refine goes_ Try.func25 (by kernel_rfl) rfl #[.agg #[.int .i64 q0, .int .i64 q1, .slice A0_2 l0_2.length c0_2, .int .i64 q3, .int .i64 q4, .int .i64 q5, .int .i64 q6, .int .i64 q7, .int .i64 x8_2], .slice A2 l2.length c2] (by rfl) rfl rfl (by (try simp only [List.map_toArray, List.map_cons, List.map_nil]); first | done | rfl | (simp only [List.length_drop, List.length_take]; rfl)) ?_
                          with_reducible refine (unit_Starts.calls k2 q0 q1 _ _ l0_2 q3 q4 q5 q6 q7 x8_2 _ _ l2 t266 _ ?side1 ?side2 ?side3 ?side4 A60.out).mono ?_
                          (case side1 => repeat (first | exact (Kd.C_below HR0_2.out HB.out) | (with_reducible refine Kd.C_alloc ?_ _) | (with_reducible refine Kd.C_drewN ?_ _) | (with_reducible refine Kd.C_drew ?_)))
                          (case side2 => exact HC0_2.out)
                          (case side3 => repeat (first | exact (Kd.C_below HR2.out HB.out) | (with_reducible refine Kd.C_alloc ?_ _) | (with_reducible refine Kd.C_drewN ?_ _) | (with_reducible refine Kd.C_drew ?_)))
                          (case side4 => exact HC2.out)
                          rintro e w93 ⟨rfl, hb⟩
                          refine ⟨_, rfl, ?_⟩
                          have n0_ := Aside0.mk (Kd.R_below (by (with_reducible repeat (first | apply Kd.R_alloc | apply Kd.R_drewN | apply Kd.R_drew)); exact HO_7.out) hb)
                          have n1_ := Aside0.mk (blk_below (g := g239) (o := .cells #[.int .i64 q0, .int .i64 q1, .slice A0_2 l0_2.length c0_2, .int .i64 q3, .int .i64 q4, .int .i64 q5, .int .i64 q6, .int .i64 q7, .int .i64 q8] 24 (0, 0)) (by (with_reducible repeat (first | refine blk_drewN ?_ _ | refine blk_drew ?_ | refine blk_alloc ?_ _)); exact BK239.out) hb)
                          have n2_ := Aside0.mk (blk_below (g := g260) (o := .cells #[.int .i64 q0, .int .i64 q1, .slice A0_2 l0_2.length c0_2, .int .i64 q3, .int .i64 q4, .int .i64 q5, .int .i64 q6, .int .i64 q7, .int .i64 x8_2] 24 (0, 0)) (by (with_reducible repeat (first | refine blk_drewN ?_ _ | refine blk_drew ?_ | refine blk_alloc ?_ _)); exact BK260.out) hb)
                          have n3_ := Aside0.mk (below_step (by repeat (first | (with_reducible first | exact HB.out | apply below_alloc | apply pw_below_drewN | apply below_drew1 | refine below_set ?_ GE239.out | refine below_set ?_ GE260.out) | exact HB.out)) hb)
                          clear HO_7
                          clear BK239
                          clear BK260
                          clear HB
                          have HO_7 := n0_
                          have BK239 := n1_
                          have BK260 := n2_
                          have HB := n3_
                          clear n0_ n1_ n2_ n3_
                          (try clear hb)
                          (try clear hb2)
                          (try clear hk)
                          (try clear hi)
                          refine hK.out _ _ ⟨(blk_cell BK260.out 0).trans rfl, (blk_cell BK260.out 1).trans rfl, (blk_cell BK260.out 2).trans rfl, (blk_cell BK260.out 3).trans rfl, (blk_cell BK260.out 4).trans rfl, (blk_cell BK260.out 5).trans rfl, (blk_cell BK260.out 6).trans rfl, (blk_cell BK260.out 7).trans rfl, (blk_cell BK260.out 8).trans rfl, (blk_cell BK239.out 0).trans rfl, (blk_cell BK239.out 1).trans rfl, (blk_cell BK239.out 2).trans rfl, (blk_cell BK239.out 3).trans rfl, (blk_cell BK239.out 4).trans rfl, (blk_cell BK239.out 5).trans rfl, (blk_cell BK239.out 6).trans rfl, (blk_cell BK239.out 7).trans rfl, (blk_cell BK239.out 8).trans rfl⟩ (fun hHeld => ?_)
                          clear hK K
                          refine norm_ (a' := ?_) ?_ ?_
                          rotate_left
                          · show Act.put _ (some 83) _ = _
                            simp only [Act.put, List.setIfInBounds_toArray, List.set_cons_zero, List.set_cons_succ, i64_w, i32_w]
                            rfl
                          iterate 4 ((refine pureAt (n := 38) (v := ?_) (a' := ?_) rfl rfl rfl (any_of HT_.out (by kernel_rfl)) (fun _ _ _ h => h) (Or.inl ⟨by rfl, ?_⟩) ?_ ?_; rotate_left; (focus (intro w'; go_simp; with_reducible rfl)); rotate_left; (focus (simp only [Act.put, List.setIfInBounds_toArray, List.set_cons_zero, List.set_cons_succ, i64_w, i32_w]; rfl))))
                          iterate 11 ((refine pureAt (n := 38) (v := undef) (a' := ?_) rfl rfl rfl (any_of HT_.out (by kernel_rfl)) (fun _ _ _ h => h) (Or.inr ⟨by rfl, rfl⟩) ?_ ?_; rotate_left; (focus (simp only [Act.put, List.setIfInBounds_toArray, List.set_cons_zero, List.set_cons_succ, i64_w, i32_w]; rfl))))
                          iterate 2 ((refine pureAt (n := 38) (v := ?_) (a' := ?_) rfl rfl rfl (any_of HT_.out (by kernel_rfl)) (fun _ _ _ h => h) (Or.inl ⟨by rfl, ?_⟩) ?_ ?_; rotate_left; (focus (intro w'; go_simp; with_reducible rfl)); rotate_left; (focus (simp only [Act.put, List.setIfInBounds_toArray, List.set_cons_zero, List.set_cons_succ, i64_w, i32_w]; rfl))))
                          refine done_ (done_of HT_.out (by kernel_rfl)) ?_
                          try go_wp2
                          go_ret
                          exact ⟨by first | rfl | (simp [errW_none, errW_some] <;> rfl) | (simp [*, errW_none, errW_some] <;> rfl), by repeat (first | (with_reducible first | exact HB.out | apply below_alloc | apply pw_below_drewN | apply below_drew1 | refine below_set ?_ GE239.out | refine below_set ?_ GE260.out) | exact HB.out)⟩
                      · rw [if_neg c57] at H
                        have c57b0 : (t262 == t263) = false := by simpa using c57
                        (try (have c57b1 : decide (t262 = t263) = false := by simpa using c57))
                        (try (have c57b2 : (t262 == t263) = false := by simpa using c57))
                        (try (have c57b3 : ¬ (t262 = t263) := by simpa using c57))
                        clear c57
                        obtain rfl := Option.some.inj H
                        have hcz94_0 : wr.cell? ⟨g239, 0, none⟩ = some (.int .i64 q0) := (blk_cell BK239.out 0).trans rfl
                        have hcz94_1 : wr.cell? ⟨g239, 1, none⟩ = some (.int .i64 q1) := (blk_cell BK239.out 1).trans rfl
                        have hcz94_2 : wr.cell? ⟨g239, 2, none⟩ = some (.slice A0_2 l0_2.length c0_2) := (blk_cell BK239.out 2).trans rfl
                        have hcz94_3 : wr.cell? ⟨g239, 3, none⟩ = some (.int .i64 q3) := (blk_cell BK239.out 3).trans rfl
                        have hcz94_4 : wr.cell? ⟨g239, 4, none⟩ = some (.int .i64 q4) := (blk_cell BK239.out 4).trans rfl
                        have hcz94_5 : wr.cell? ⟨g239, 5, none⟩ = some (.int .i64 q5) := (blk_cell BK239.out 5).trans rfl
                        have hcz94_6 : wr.cell? ⟨g239, 6, none⟩ = some (.int .i64 q6) := (blk_cell BK239.out 6).trans rfl
                        have hcz94_7 : wr.cell? ⟨g239, 7, none⟩ = some (.int .i64 q7) := (blk_cell BK239.out 7).trans rfl
                        have hcz94_8 : wr.cell? ⟨g239, 8, none⟩ = some (.int .i64 q8) := (blk_cell BK239.out 8).trans rfl
                        have hfz94_0 := blk_frozen BK239.out 0
                        have hfz94_1 := blk_frozen BK239.out 1
                        have hfz94_2 := blk_frozen BK239.out 2
                        have hfz94_3 := blk_frozen BK239.out 3
                        have hfz94_4 := blk_frozen BK239.out 4
                        have hfz94_5 := blk_frozen BK239.out 5
                        have hfz94_6 := blk_frozen BK239.out 6
                        have hfz94_7 := blk_frozen BK239.out 7
                        have hfz94_8 := blk_frozen BK239.out 8
                        try go_wp2_with (first | ((with_reducible refine gate_dst (N := 10) rfl ?_); refine box_event ?hg (N := 10) ?hd (cs := #[.int .i64 0, .int .i64 0, .slice none 0 0, .int .i64 0, .int .i64 0, .int .i64 0, .int .i64 0, .int .i64 0, .int .i64 0]) (t := 24) ?hr ?_; (case hd => rfl); (case hg => rfl); (case hr => first | (go_simp; done) | (go_simp; rfl)); intro g260 hg w95 hbox hb; have n0_ := Aside0.mk (Kd.R_below (by (with_reducible repeat (first | apply Kd.R_alloc | apply Kd.R_drewN | apply Kd.R_drew)); exact HO_7.out) hb); have n1_ := Aside0.mk (blk_below (g := g239) (o := .cells #[.int .i64 q0, .int .i64 q1, .slice A0_2 l0_2.length c0_2, .int .i64 q3, .int .i64 q4, .int .i64 q5, .int .i64 q6, .int .i64 q7, .int .i64 q8] 24 (0, 0)) (by (with_reducible repeat (first | refine blk_drewN ?_ _ | refine blk_drew ?_ | refine blk_alloc ?_ _)); exact BK239.out) hb); have n2_ := Aside0.mk (below_step (by repeat (first | (with_reducible first | exact HB.out | apply below_alloc | apply pw_below_drewN | apply below_drew1 | refine below_set ?_ GE239.out) | exact HB.out)) hb); have n3_ := Aside0.mk (hbox); have n4_ := Aside0.mk ((by rw [hg]; exact (below_size (by repeat (first | (with_reducible first | exact HB.out | apply below_alloc | apply pw_below_drewN | apply below_drew1 | refine below_set ?_ GE239.out) | exact HB.out))) : w.heap.size ≤ g260)); have n5_ := Aside0.mk ((by rw [hg]; exact (below_size (by repeat (first | (with_reducible first | exact HB.out | apply below_alloc | apply pw_below_drewN | apply below_drew1 | refine below_set ?_ GE239.out) | exact HB.out))) : w.heap.size ≤ g260)); have n6_ := Aside0.mk ((by rw [hg]; exact Nat.ne_of_lt (blk_lt (g := g239) (o := .cells #[.int .i64 q0, .int .i64 q1, .slice A0_2 l0_2.length c0_2, .int .i64 q3, .int .i64 q4, .int .i64 q5, .int .i64 q6, .int .i64 q7, .int .i64 q8] 24 (0, 0)) (by (with_reducible repeat (first | refine blk_drewN ?_ _ | refine blk_drew ?_ | refine blk_alloc ?_ _)); exact BK239.out)) : g239 ≠ g260)); have n7_ := Aside0.mk ((by rw [hg]; exact Nat.ne_of_gt (blk_lt (g := g239) (o := .cells #[.int .i64 q0, .int .i64 q1, .slice A0_2 l0_2.length c0_2, .int .i64 q3, .int .i64 q4, .int .i64 q5, .int .i64 q6, .int .i64 q7, .int .i64 q8] 24 (0, 0)) (by (with_reducible repeat (first | refine blk_drewN ?_ _ | refine blk_drew ?_ | refine blk_alloc ?_ _)); exact BK239.out)) : g260 ≠ g239)); clear HO_7; clear BK239; clear HB; have HO_7 := n0_; have BK239 := n1_; have HB := n2_; have BK260 := n3_; have GW260 := n4_; have GE260 := n5_; have NB239_260 := n6_; have NB260_239 := n7_; clear n0_ n1_ n2_ n3_ n4_ n5_ n6_ n7_; clear hb hbox hg; have hnb96 := NB260_239.out; have hnc96 := NB239_260.out; have hcz97_0 : w95.cell? ⟨g260, 0, none⟩ = some (.int .i64 0) := (blk_cell BK260.out 0).trans rfl; have hcz97_1 : w95.cell? ⟨g260, 1, none⟩ = some (.int .i64 0) := (blk_cell BK260.out 1).trans rfl; have hcz97_2 : w95.cell? ⟨g260, 2, none⟩ = some (.slice none 0 0) := (blk_cell BK260.out 2).trans rfl; have hcz97_3 : w95.cell? ⟨g260, 3, none⟩ = some (.int .i64 0) := (blk_cell BK260.out 3).trans rfl; have hcz97_4 : w95.cell? ⟨g260, 4, none⟩ = some (.int .i64 0) := (blk_cell BK260.out 4).trans rfl; have hcz97_5 : w95.cell? ⟨g260, 5, none⟩ = some (.int .i64 0) := (blk_cell BK260.out 5).trans rfl; have hcz97_6 : w95.cell? ⟨g260, 6, none⟩ = some (.int .i64 0) := (blk_cell BK260.out 6).trans rfl; have hcz97_7 : w95.cell? ⟨g260, 7, none⟩ = some (.int .i64 0) := (blk_cell BK260.out 7).trans rfl; have hcz97_8 : w95.cell? ⟨g260, 8, none⟩ = some (.int .i64 0) := (blk_cell BK260.out 8).trans rfl; have hfz97_0 := blk_frozen BK260.out 0; have hfz97_1 := blk_frozen BK260.out 1; have hfz97_2 := blk_frozen BK260.out 2; have hfz97_3 := blk_frozen BK260.out 3; have hfz97_4 := blk_frozen BK260.out 4; have hfz97_5 := blk_frozen BK260.out 5; have hfz97_6 := blk_frozen BK260.out 6; have hfz97_7 := blk_frozen BK260.out 7; have hfz97_8 := blk_frozen BK260.out 8))
                        have n0_ : Aside0 (Kd.R Kd.bool 4 ((((((((((w95.setCell ⟨g260, 0, none⟩ (.int .i64 q0)).setCell ⟨g260, 1, none⟩ (.int .i64 q1)).setCell ⟨g260, 2, none⟩ (.slice A0_2 l0_2.length c0_2)).setCell ⟨g260, 3, none⟩ (.int .i64 q3)).setCell ⟨g260, 4, none⟩ (.int .i64 q4)).setCell ⟨g260, 5, none⟩ (.int .i64 q5)).setCell ⟨g260, 6, none⟩ (.int .i64 q6)).setCell ⟨g260, 7, none⟩ (.int .i64 q7)).setCell ⟨g260, 8, none⟩ (.int .i64 q8)).setCell ⟨g260, 8, none⟩ (.int .i64 x8_2)) w.heap.size (fun _ => True) v252 y251) := ⟨by (with_reducible repeat (first | apply Kd.R_alloc | apply Kd.R_drewN | apply Kd.R_drew)); exact Kd.R_mono (Kd.R_far (p := ⟨g260, 8, none⟩) (Kd.R_far (p := ⟨g260, 8, none⟩) (Kd.R_far (p := ⟨g260, 7, none⟩) (Kd.R_far (p := ⟨g260, 6, none⟩) (Kd.R_far (p := ⟨g260, 5, none⟩) (Kd.R_far (p := ⟨g260, 4, none⟩) (Kd.R_far (p := ⟨g260, 3, none⟩) (Kd.R_far (p := ⟨g260, 2, none⟩) (Kd.R_far (p := ⟨g260, 1, none⟩) (Kd.R_far (p := ⟨g260, 0, none⟩) (Kd.R_types HO_7.out BK260.out (by decide)) (fun _ hk => hk.2) (.int .i64 q0)) (fun _ hk => hk.2) (.int .i64 q1)) (fun _ hk => hk.2) (.slice A0_2 l0_2.length c0_2)) (fun _ hk => hk.2) (.int .i64 q3)) (fun _ hk => hk.2) (.int .i64 q4)) (fun _ hk => hk.2) (.int .i64 q5)) (fun _ hk => hk.2) (.int .i64 q6)) (fun _ hk => hk.2) (.int .i64 q7)) (fun _ hk => hk.2) (.int .i64 q8)) (fun _ hk => hk.2) (.int .i64 x8_2)) (fun _ hk => trivial)⟩
                        have n1_ : Aside0 (((((((((((w95.setCell ⟨g260, 0, none⟩ (.int .i64 q0)).setCell ⟨g260, 1, none⟩ (.int .i64 q1)).setCell ⟨g260, 2, none⟩ (.slice A0_2 l0_2.length c0_2)).setCell ⟨g260, 3, none⟩ (.int .i64 q3)).setCell ⟨g260, 4, none⟩ (.int .i64 q4)).setCell ⟨g260, 5, none⟩ (.int .i64 q5)).setCell ⟨g260, 6, none⟩ (.int .i64 q6)).setCell ⟨g260, 7, none⟩ (.int .i64 q7)).setCell ⟨g260, 8, none⟩ (.int .i64 q8)).setCell ⟨g260, 8, none⟩ (.int .i64 x8_2)).heap[g239]? = some (.cells #[.int .i64 q0, .int .i64 q1, .slice A0_2 l0_2.length c0_2, .int .i64 q3, .int .i64 q4, .int .i64 q5, .int .i64 q6, .int .i64 q7, .int .i64 q8] 24 (0, 0))) := ⟨by (with_reducible repeat (first | refine blk_drewN ?_ _ | refine blk_drew ?_ | refine blk_alloc ?_ _)); refine blk_far ?_ NB239_260.out _; (with_reducible repeat (first | refine blk_drewN ?_ _ | refine blk_drew ?_ | refine blk_alloc ?_ _)); refine blk_far ?_ NB239_260.out _; (with_reducible repeat (first | refine blk_drewN ?_ _ | refine blk_drew ?_ | refine blk_alloc ?_ _)); refine blk_far ?_ NB239_260.out _; (with_reducible repeat (first | refine blk_drewN ?_ _ | refine blk_drew ?_ | refine blk_alloc ?_ _)); refine blk_far ?_ NB239_260.out _; (with_reducible repeat (first | refine blk_drewN ?_ _ | refine blk_drew ?_ | refine blk_alloc ?_ _)); refine blk_far ?_ NB239_260.out _; (with_reducible repeat (first | refine blk_drewN ?_ _ | refine blk_drew ?_ | refine blk_alloc ?_ _)); refine blk_far ?_ NB239_260.out _; (with_reducible repeat (first | refine blk_drewN ?_ _ | refine blk_drew ?_ | refine blk_alloc ?_ _)); refine blk_far ?_ NB239_260.out _; (with_reducible repeat (first | refine blk_drewN ?_ _ | refine blk_drew ?_ | refine blk_alloc ?_ _)); refine blk_far ?_ NB239_260.out _; (with_reducible repeat (first | refine blk_drewN ?_ _ | refine blk_drew ?_ | refine blk_alloc ?_ _)); refine blk_far ?_ NB239_260.out _; (with_reducible repeat (first | refine blk_drewN ?_ _ | refine blk_drew ?_ | refine blk_alloc ?_ _)); refine blk_far ?_ NB239_260.out _; (with_reducible repeat (first | refine blk_drewN ?_ _ | refine blk_drew ?_ | refine blk_alloc ?_ _)); exact BK239.out⟩
                        have n2_ : Aside0 (((((((((((w95.setCell ⟨g260, 0, none⟩ (.int .i64 q0)).setCell ⟨g260, 1, none⟩ (.int .i64 q1)).setCell ⟨g260, 2, none⟩ (.slice A0_2 l0_2.length c0_2)).setCell ⟨g260, 3, none⟩ (.int .i64 q3)).setCell ⟨g260, 4, none⟩ (.int .i64 q4)).setCell ⟨g260, 5, none⟩ (.int .i64 q5)).setCell ⟨g260, 6, none⟩ (.int .i64 q6)).setCell ⟨g260, 7, none⟩ (.int .i64 q7)).setCell ⟨g260, 8, none⟩ (.int .i64 q8)).setCell ⟨g260, 8, none⟩ (.int .i64 x8_2)).heap[g260]? = some (.cells #[.int .i64 q0, .int .i64 q1, .slice A0_2 l0_2.length c0_2, .int .i64 q3, .int .i64 q4, .int .i64 q5, .int .i64 q6, .int .i64 q7, .int .i64 x8_2] 24 (0, 0))) := ⟨by (with_reducible repeat (first | refine blk_drewN ?_ _ | refine blk_drew ?_ | refine blk_alloc ?_ _)); refine blk_put (cs := #[.int .i64 q0, .int .i64 q1, .slice A0_2 l0_2.length c0_2, .int .i64 q3, .int .i64 q4, .int .i64 q5, .int .i64 q6, .int .i64 q7, .int .i64 q8]) ?_ 8 _ rfl; (with_reducible repeat (first | refine blk_drewN ?_ _ | refine blk_drew ?_ | refine blk_alloc ?_ _)); refine blk_put (cs := #[.int .i64 q0, .int .i64 q1, .slice A0_2 l0_2.length c0_2, .int .i64 q3, .int .i64 q4, .int .i64 q5, .int .i64 q6, .int .i64 q7, .int .i64 0]) ?_ 8 _ rfl; (with_reducible repeat (first | refine blk_drewN ?_ _ | refine blk_drew ?_ | refine blk_alloc ?_ _)); refine blk_put (cs := #[.int .i64 q0, .int .i64 q1, .slice A0_2 l0_2.length c0_2, .int .i64 q3, .int .i64 q4, .int .i64 q5, .int .i64 q6, .int .i64 0, .int .i64 0]) ?_ 7 _ rfl; (with_reducible repeat (first | refine blk_drewN ?_ _ | refine blk_drew ?_ | refine blk_alloc ?_ _)); refine blk_put (cs := #[.int .i64 q0, .int .i64 q1, .slice A0_2 l0_2.length c0_2, .int .i64 q3, .int .i64 q4, .int .i64 q5, .int .i64 0, .int .i64 0, .int .i64 0]) ?_ 6 _ rfl; (with_reducible repeat (first | refine blk_drewN ?_ _ | refine blk_drew ?_ | refine blk_alloc ?_ _)); refine blk_put (cs := #[.int .i64 q0, .int .i64 q1, .slice A0_2 l0_2.length c0_2, .int .i64 q3, .int .i64 q4, .int .i64 0, .int .i64 0, .int .i64 0, .int .i64 0]) ?_ 5 _ rfl; (with_reducible repeat (first | refine blk_drewN ?_ _ | refine blk_drew ?_ | refine blk_alloc ?_ _)); refine blk_put (cs := #[.int .i64 q0, .int .i64 q1, .slice A0_2 l0_2.length c0_2, .int .i64 q3, .int .i64 0, .int .i64 0, .int .i64 0, .int .i64 0, .int .i64 0]) ?_ 4 _ rfl; (with_reducible repeat (first | refine blk_drewN ?_ _ | refine blk_drew ?_ | refine blk_alloc ?_ _)); refine blk_put (cs := #[.int .i64 q0, .int .i64 q1, .slice A0_2 l0_2.length c0_2, .int .i64 0, .int .i64 0, .int .i64 0, .int .i64 0, .int .i64 0, .int .i64 0]) ?_ 3 _ rfl; (with_reducible repeat (first | refine blk_drewN ?_ _ | refine blk_drew ?_ | refine blk_alloc ?_ _)); refine blk_put (cs := #[.int .i64 q0, .int .i64 q1, .slice none 0 0, .int .i64 0, .int .i64 0, .int .i64 0, .int .i64 0, .int .i64 0, .int .i64 0]) ?_ 2 _ rfl; (with_reducible repeat (first | refine blk_drewN ?_ _ | refine blk_drew ?_ | refine blk_alloc ?_ _)); refine blk_put (cs := #[.int .i64 q0, .int .i64 0, .slice none 0 0, .int .i64 0, .int .i64 0, .int .i64 0, .int .i64 0, .int .i64 0, .int .i64 0]) ?_ 1 _ rfl; (with_reducible repeat (first | refine blk_drewN ?_ _ | refine blk_drew ?_ | refine blk_alloc ?_ _)); refine blk_put (cs := #[.int .i64 0, .int .i64 0, .slice none 0 0, .int .i64 0, .int .i64 0, .int .i64 0, .int .i64 0, .int .i64 0, .int .i64 0]) ?_ 0 _ rfl; (with_reducible repeat (first | refine blk_drewN ?_ _ | refine blk_drew ?_ | refine blk_alloc ?_ _)); exact BK260.out⟩
                        have n3_ : Aside0 (Below w.heap.size w ((((((((((w95.setCell ⟨g260, 0, none⟩ (.int .i64 q0)).setCell ⟨g260, 1, none⟩ (.int .i64 q1)).setCell ⟨g260, 2, none⟩ (.slice A0_2 l0_2.length c0_2)).setCell ⟨g260, 3, none⟩ (.int .i64 q3)).setCell ⟨g260, 4, none⟩ (.int .i64 q4)).setCell ⟨g260, 5, none⟩ (.int .i64 q5)).setCell ⟨g260, 6, none⟩ (.int .i64 q6)).setCell ⟨g260, 7, none⟩ (.int .i64 q7)).setCell ⟨g260, 8, none⟩ (.int .i64 q8)).setCell ⟨g260, 8, none⟩ (.int .i64 x8_2))) := ⟨by repeat (first | (with_reducible first | exact HB.out | apply below_alloc | apply pw_below_drewN | apply below_drew1 | refine below_set ?_ GE239.out | refine below_set ?_ GE260.out) | exact HB.out)⟩
                        (try clear HO_7)
                        (try clear BK239)
                        (try clear BK260)
                        (try clear HB)
                        generalize ((((((((((w95.setCell ⟨g260, 0, none⟩ (.int .i64 q0)).setCell ⟨g260, 1, none⟩ (.int .i64 q1)).setCell ⟨g260, 2, none⟩ (.slice A0_2 l0_2.length c0_2)).setCell ⟨g260, 3, none⟩ (.int .i64 q3)).setCell ⟨g260, 4, none⟩ (.int .i64 q4)).setCell ⟨g260, 5, none⟩ (.int .i64 q5)).setCell ⟨g260, 6, none⟩ (.int .i64 q6)).setCell ⟨g260, 7, none⟩ (.int .i64 q7)).setCell ⟨g260, 8, none⟩ (.int .i64 q8)).setCell ⟨g260, 8, none⟩ (.int .i64 x8_2)) = w98 at n0_ n1_ n2_ n3_ ⊢
                        have HO_7 := n0_
                        have BK239 := n1_
                        have BK260 := n2_
                        have HB := n3_
                        clear n0_ n1_ n2_ n3_
                        have n0_ := Aside0.mk (Kd.R_drew HO_7.out)
                        have n1_ := Aside0.mk (blk_drew BK239.out)
                        have n2_ := Aside0.mk (blk_drew BK260.out)
                        have n3_ := Aside0.mk (below_drew1 HB.out)
                        clear HO_7
                        clear BK239
                        clear BK260
                        clear HB
                        have HO_7 := n0_
                        have BK239 := n1_
                        have BK260 := n2_
                        have HB := n3_
                        clear n0_ n1_ n2_ n3_
                        refine start_ (n := 38) (S := fun w' => w'.cell? ⟨g260, 0, none⟩ = some (.int .i64 q0) ∧ w'.cell? ⟨g260, 1, none⟩ = some (.int .i64 q1) ∧ w'.cell? ⟨g260, 2, none⟩ = some (.slice A0_2 l0_2.length c0_2) ∧ w'.cell? ⟨g260, 3, none⟩ = some (.int .i64 q3) ∧ w'.cell? ⟨g260, 4, none⟩ = some (.int .i64 q4) ∧ w'.cell? ⟨g260, 5, none⟩ = some (.int .i64 q5) ∧ w'.cell? ⟨g260, 6, none⟩ = some (.int .i64 q6) ∧ w'.cell? ⟨g260, 7, none⟩ = some (.int .i64 q7) ∧ w'.cell? ⟨g260, 8, none⟩ = some (.int .i64 x8_2) ∧ w'.cell? ⟨g239, 0, none⟩ = some (.int .i64 q0) ∧ w'.cell? ⟨g239, 1, none⟩ = some (.int .i64 q1) ∧ w'.cell? ⟨g239, 2, none⟩ = some (.slice A0_2 l0_2.length c0_2) ∧ w'.cell? ⟨g239, 3, none⟩ = some (.int .i64 q3) ∧ w'.cell? ⟨g239, 4, none⟩ = some (.int .i64 q4) ∧ w'.cell? ⟨g239, 5, none⟩ = some (.int .i64 q5) ∧ w'.cell? ⟨g239, 6, none⟩ = some (.int .i64 q6) ∧ w'.cell? ⟨g239, 7, none⟩ = some (.int .i64 q7) ∧ w'.cell? ⟨g239, 8, none⟩ = some (.int .i64 q8)) (ds := []) (pbn 38 38) (by kernel_rfl) rfl rfl ⟨(blk_cell BK260.out 0).trans rfl, (blk_cell BK260.out 1).trans rfl, (blk_cell BK260.out 2).trans rfl, (blk_cell BK260.out 3).trans rfl, (blk_cell BK260.out 4).trans rfl, (blk_cell BK260.out 5).trans rfl, (blk_cell BK260.out 6).trans rfl, (blk_cell BK260.out 7).trans rfl, (blk_cell BK260.out 8).trans rfl, (blk_cell BK239.out 0).trans rfl, (blk_cell BK239.out 1).trans rfl, (blk_cell BK239.out 2).trans rfl, (blk_cell BK239.out 3).trans rfl, (blk_cell BK239.out 4).trans rfl, (blk_cell BK239.out 5).trans rfl, (blk_cell BK239.out 6).trans rfl, (blk_cell BK239.out 7).trans rfl, (blk_cell BK239.out 8).trans rfl⟩ (fun hHeld => ?_); refine with_tabW pylonlaw26_UnitConcatenation.tab13 pylonlaw26_UnitConcatenation.bits13 (fun HT_ HW_ => ?_)
                        generalize w98.drew = w99 at HO_7 BK239 BK260 HB hHeld ⊢
                        (refine takeAt (n := 38) (v := ?_) (a' := ?_) rfl rfl rfl (take_ofW HT_.out HW_.out (by kernel_rfl)) (fun _ _ _ h => h) (Or.inl ⟨by rfl, ?_⟩) hHeld ?_ ?_; rotate_left; (focus (rintro w' ⟨s0, s1, s2, s3, s4, s5, s6, s7, s8, s9, s10, s11, s12, s13, s14, s15, s16, s17⟩; go_simp; with_reducible rfl)); rotate_left; (focus (simp only [Act.put, List.setIfInBounds_toArray, List.set_cons_zero, List.set_cons_succ, i64_w, i32_w]; rfl)))
                        refine one_ (i := 1) (N := some 64) (pbn 38 36) rfl rfl (one_of HT_.out (by kernel_rfl)) (by decide) (fun K hK => ?_)
                        refine goes_ Try.func21 (by kernel_rfl) rfl #[.agg #[.int .i64 q0, .int .i64 q1, .slice A0_2 l0_2.length c0_2, .int .i64 q3, .int .i64 q4, .int .i64 q5, .int .i64 q6, .int .i64 q7, .int .i64 x8_2]] (by rfl) rfl rfl (by (try simp only [List.map_toArray, List.map_cons, List.map_nil]); first | done | rfl | (simp only [List.length_drop, List.length_take]; rfl)) ?_
                        with_reducible refine (pylonlaw26_may.calls k2 q0 q1 _ _ l0_2 q3 q4 q5 q6 q7 x8_2 true _ ?side1 ?side2 A53.out).mono ?_
                        (case side1 => repeat (first | exact (Kd.C_below HR0_2.out HB.out) | (with_reducible refine Kd.C_alloc ?_ _) | (with_reducible refine Kd.C_drewN ?_ _) | (with_reducible refine Kd.C_drew ?_)))
                        (case side2 => exact HC0_2.out)
                        rintro e w100 ⟨rfl, hb⟩
                        refine ⟨_, rfl, ?_⟩
                        have n0_ := Aside0.mk (Kd.R_below (by (with_reducible repeat (first | apply Kd.R_alloc | apply Kd.R_drewN | apply Kd.R_drew)); exact HO_7.out) hb)
                        have n1_ := Aside0.mk (blk_below (g := g239) (o := .cells #[.int .i64 q0, .int .i64 q1, .slice A0_2 l0_2.length c0_2, .int .i64 q3, .int .i64 q4, .int .i64 q5, .int .i64 q6, .int .i64 q7, .int .i64 q8] 24 (0, 0)) (by (with_reducible repeat (first | refine blk_drewN ?_ _ | refine blk_drew ?_ | refine blk_alloc ?_ _)); exact BK239.out) hb)
                        have n2_ := Aside0.mk (blk_below (g := g260) (o := .cells #[.int .i64 q0, .int .i64 q1, .slice A0_2 l0_2.length c0_2, .int .i64 q3, .int .i64 q4, .int .i64 q5, .int .i64 q6, .int .i64 q7, .int .i64 x8_2] 24 (0, 0)) (by (with_reducible repeat (first | refine blk_drewN ?_ _ | refine blk_drew ?_ | refine blk_alloc ?_ _)); exact BK260.out) hb)
                        have n3_ := Aside0.mk (below_step (by repeat (first | (with_reducible first | exact HB.out | apply below_alloc | apply pw_below_drewN | apply below_drew1 | refine below_set ?_ GE239.out | refine below_set ?_ GE260.out) | exact HB.out)) hb)
                        clear HO_7
                        clear BK239
                        clear BK260
                        clear HB
                        have HO_7 := n0_
                        have BK239 := n1_
                        have BK260 := n2_
                        have HB := n3_
                        clear n0_ n1_ n2_ n3_
                        (try clear hb)
                        (try clear hb2)
                        (try clear hk)
                        (try clear hi)
                        obtain ⟨Ao101, co101, eo101⟩ := Kd.R_slice HO_7.out
                        (first | subst eo101 | (injection eo101 with f1_ f2_ f3_; have f4_ := f1_.symm; have f5_ := f3_.symm; clear f1_ f2_ f3_; subst f4_; subst f5_))
                        refine hK.out _ _ ⟨(blk_cell BK260.out 0).trans rfl, (blk_cell BK260.out 1).trans rfl, (blk_cell BK260.out 2).trans rfl, (blk_cell BK260.out 3).trans rfl, (blk_cell BK260.out 4).trans rfl, (blk_cell BK260.out 5).trans rfl, (blk_cell BK260.out 6).trans rfl, (blk_cell BK260.out 7).trans rfl, (blk_cell BK260.out 8).trans rfl, (blk_cell BK239.out 0).trans rfl, (blk_cell BK239.out 1).trans rfl, (blk_cell BK239.out 2).trans rfl, (blk_cell BK239.out 3).trans rfl, (blk_cell BK239.out 4).trans rfl, (blk_cell BK239.out 5).trans rfl, (blk_cell BK239.out 6).trans rfl, (blk_cell BK239.out 7).trans rfl, (blk_cell BK239.out 8).trans rfl⟩ (fun hHeld => ?_)
                        clear hK K
                        refine norm_ (a' := ?_) ?_ ?_
                        rotate_left
                        · show Act.put _ (some 64) _ = _
                          simp only [Act.put, List.setIfInBounds_toArray, List.set_cons_zero, List.set_cons_succ, i64_w, i32_w]
                          rfl
                        (refine pureAt (n := 38) (v := ?_) (a' := ?_) rfl rfl rfl (any_of HT_.out (by kernel_rfl)) (fun _ _ _ h => h) (Or.inl ⟨by rfl, ?_⟩) ?_ ?_; rotate_left; (focus (intro w'; go_simp; with_reducible rfl)); rotate_left; (focus (simp only [Act.put, List.setIfInBounds_toArray, List.set_cons_zero, List.set_cons_succ, i64_w, i32_w]; rfl)))
                        refine pure_ (i := 4) (N := some 67) (v := ?_) (a' := ?_) #[true, true, true, false, true, false, false, false, false, false, false, false, false, false, false, false, false, false, false, false, false, false, false, false, false, false, false, false, false, false, false, false, false, false, false, false, false, false] rfl rfl (any_of HT_.out (by kernel_rfl)) (fun _ _ _ h => h) (Or.inl ⟨by rfl, ?_⟩) ?_ ?_
                        rotate_left
                        · intro w'
                          go_simp
                          with_reducible rfl
                        rotate_left
                        · simp only [Act.put, List.setIfInBounds_toArray, List.set_cons_zero, List.set_cons_succ, i64_w, i32_w]
                          rfl
                        refine pure_ (i := 7) (N := some 70) (v := ?_) (a' := ?_) #[true, true, true, false, true, false, false, true, false, false, false, false, false, false, false, false, false, false, false, false, false, false, false, false, false, false, false, false, false, false, false, false, false, false, false, false, false, false] rfl rfl (any_of HT_.out (by kernel_rfl)) (fun _ _ _ h => h) (Or.inl ⟨by rfl, ?_⟩) ?_ ?_
                        rotate_left
                        · intro w'
                          go_simp
                          with_reducible rfl
                        rotate_left
                        · simp only [Act.put, List.setIfInBounds_toArray, List.set_cons_zero, List.set_cons_succ, i64_w, i32_w]
                          rfl
                        refine take_ (i := 3) (N := some 66) (v := ?_) (a' := ?_) #[true, true, true, true, true, false, false, true, false, false, false, false, false, false, false, false, false, false, false, false, false, false, false, false, false, false, false, false, false, false, false, false, false, false, false, false, false, false] rfl rfl (take_ofW HT_.out HW_.out (by kernel_rfl)) (fun _ _ _ h => h) (Or.inl ⟨by rfl, ?_⟩) hHeld ?_ ?_
                        rotate_left
                        · rintro w' ⟨s0, s1, s2, s3, s4, s5, s6, s7, s8, s9, s10, s11, s12, s13, s14, s15, s16, s17⟩
                          go_simp
                          with_reducible rfl
                        rotate_left
                        · simp only [Act.put, List.setIfInBounds_toArray, List.set_cons_zero, List.set_cons_succ, i64_w, i32_w]
                          rfl
                        refine take_ (i := 6) (N := some 69) (v := ?_) (a' := ?_) #[true, true, true, true, true, false, true, true, false, false, false, false, false, false, false, false, false, false, false, false, false, false, false, false, false, false, false, false, false, false, false, false, false, false, false, false, false, false] rfl rfl (take_ofW HT_.out HW_.out (by kernel_rfl)) (fun _ _ _ h => h) (Or.inl ⟨by rfl, ?_⟩) hHeld ?_ ?_
                        rotate_left
                        · rintro w' ⟨s0, s1, s2, s3, s4, s5, s6, s7, s8, s9, s10, s11, s12, s13, s14, s15, s16, s17⟩
                          go_simp
                          with_reducible rfl
                        rotate_left
                        · simp only [Act.put, List.setIfInBounds_toArray, List.set_cons_zero, List.set_cons_succ, i64_w, i32_w]
                          rfl
                        refine one_ (i := 5) (N := some 68) (pbn 38 30) rfl rfl (one_of HT_.out (by kernel_rfl)) (by decide) (fun K hK => ?_)
                        refine goes_ Try.func22 (by kernel_rfl) rfl #[.agg #[.int .i64 q0, .int .i64 q1, .slice A0_2 l0_2.length c0_2, .int .i64 q3, .int .i64 q4, .int .i64 q5, .int .i64 q6, .int .i64 q7, .int .i64 q8], .slice Ao101 y251.length co101] (by rfl) rfl rfl (by (try simp only [List.map_toArray, List.map_cons, List.map_nil]); first | done | rfl | (simp only [List.length_drop, List.length_take]; rfl)) ?_
                        with_reducible refine (unit_Feasible.calls k2 q0 q1 _ _ l0_2 q3 q4 q5 q6 q7 q8 _ _ y251 t262 _ ?side1 ?side2 ?side3 ?side4 A55.out).mono ?_
                        (case side1 => repeat (first | exact (Kd.C_below HR0_2.out HB.out) | (with_reducible refine Kd.C_alloc ?_ _) | (with_reducible refine Kd.C_drewN ?_ _) | (with_reducible refine Kd.C_drew ?_)))
                        (case side2 => exact HC0_2.out)
                        (case side3 => repeat (first | exact (Kd.R_reads' HO_7.out).2.2 | (with_reducible refine Kd.C_alloc ?_ _) | (with_reducible refine Kd.C_drewN ?_ _) | (with_reducible refine Kd.C_drew ?_)))
                        (case side4 => exact (Kd.R_reads' HO_7.out).2.1)
                        rintro e w102 ⟨rfl, hb⟩
                        refine ⟨_, rfl, ?_⟩
                        have n0_ := Aside0.mk (Kd.R_below (by (with_reducible repeat (first | apply Kd.R_alloc | apply Kd.R_drewN | apply Kd.R_drew)); exact HO_7.out) hb)
                        have n1_ := Aside0.mk (blk_below (g := g239) (o := .cells #[.int .i64 q0, .int .i64 q1, .slice A0_2 l0_2.length c0_2, .int .i64 q3, .int .i64 q4, .int .i64 q5, .int .i64 q6, .int .i64 q7, .int .i64 q8] 24 (0, 0)) (by (with_reducible repeat (first | refine blk_drewN ?_ _ | refine blk_drew ?_ | refine blk_alloc ?_ _)); exact BK239.out) hb)
                        have n2_ := Aside0.mk (blk_below (g := g260) (o := .cells #[.int .i64 q0, .int .i64 q1, .slice A0_2 l0_2.length c0_2, .int .i64 q3, .int .i64 q4, .int .i64 q5, .int .i64 q6, .int .i64 q7, .int .i64 x8_2] 24 (0, 0)) (by (with_reducible repeat (first | refine blk_drewN ?_ _ | refine blk_drew ?_ | refine blk_alloc ?_ _)); exact BK260.out) hb)
                        have n3_ := Aside0.mk (below_step (by repeat (first | (with_reducible first | exact HB.out | apply below_alloc | apply pw_below_drewN | apply below_drew1 | refine below_set ?_ GE239.out | refine below_set ?_ GE260.out) | exact HB.out)) hb)
                        clear HO_7
                        clear BK239
                        clear BK260
                        clear HB
                        have HO_7 := n0_
                        have BK239 := n1_
                        have BK260 := n2_
                        have HB := n3_
                        clear n0_ n1_ n2_ n3_
                        (try clear hb)
                        (try clear hb2)
                        (try clear hk)
                        (try clear hi)
                        refine hK.out _ _ ⟨(blk_cell BK260.out 0).trans rfl, (blk_cell BK260.out 1).trans rfl, (blk_cell BK260.out 2).trans rfl, (blk_cell BK260.out 3).trans rfl, (blk_cell BK260.out 4).trans rfl, (blk_cell BK260.out 5).trans rfl, (blk_cell BK260.out 6).trans rfl, (blk_cell BK260.out 7).trans rfl, (blk_cell BK260.out 8).trans rfl, (blk_cell BK239.out 0).trans rfl, (blk_cell BK239.out 1).trans rfl, (blk_cell BK239.out 2).trans rfl, (blk_cell BK239.out 3).trans rfl, (blk_cell BK239.out 4).trans rfl, (blk_cell BK239.out 5).trans rfl, (blk_cell BK239.out 6).trans rfl, (blk_cell BK239.out 7).trans rfl, (blk_cell BK239.out 8).trans rfl⟩ (fun hHeld => ?_)
                        clear hK K
                        refine norm_ (a' := ?_) ?_ ?_
                        rotate_left
                        · show Act.put _ (some 68) _ = _
                          simp only [Act.put, List.setIfInBounds_toArray, List.set_cons_zero, List.set_cons_succ, i64_w, i32_w]
                          rfl
                        refine one_ (i := 8) (N := some 71) (pbn 38 29) rfl rfl (one_of HT_.out (by kernel_rfl)) (by decide) (fun K hK => ?_)
                        refine goes_ Try.func22 (by kernel_rfl) rfl #[.agg #[.int .i64 q0, .int .i64 q1, .slice A0_2 l0_2.length c0_2, .int .i64 q3, .int .i64 q4, .int .i64 q5, .int .i64 q6, .int .i64 q7, .int .i64 x8_2], .slice A2 l2.length c2] (by rfl) rfl rfl (by (try simp only [List.map_toArray, List.map_cons, List.map_nil]); first | done | rfl | (simp only [List.length_drop, List.length_take]; rfl)) ?_
                        with_reducible refine (unit_Feasible.calls k2 q0 q1 _ _ l0_2 q3 q4 q5 q6 q7 x8_2 _ _ l2 t263 _ ?side1 ?side2 ?side3 ?side4 A56.out).mono ?_
                        (case side1 => repeat (first | exact (Kd.C_below HR0_2.out HB.out) | (with_reducible refine Kd.C_alloc ?_ _) | (with_reducible refine Kd.C_drewN ?_ _) | (with_reducible refine Kd.C_drew ?_)))
                        (case side2 => exact HC0_2.out)
                        (case side3 => repeat (first | exact (Kd.C_below HR2.out HB.out) | (with_reducible refine Kd.C_alloc ?_ _) | (with_reducible refine Kd.C_drewN ?_ _) | (with_reducible refine Kd.C_drew ?_)))
                        (case side4 => exact HC2.out)
                        rintro e w103 ⟨rfl, hb⟩
                        refine ⟨_, rfl, ?_⟩
                        have n0_ := Aside0.mk (Kd.R_below (by (with_reducible repeat (first | apply Kd.R_alloc | apply Kd.R_drewN | apply Kd.R_drew)); exact HO_7.out) hb)
                        have n1_ := Aside0.mk (blk_below (g := g239) (o := .cells #[.int .i64 q0, .int .i64 q1, .slice A0_2 l0_2.length c0_2, .int .i64 q3, .int .i64 q4, .int .i64 q5, .int .i64 q6, .int .i64 q7, .int .i64 q8] 24 (0, 0)) (by (with_reducible repeat (first | refine blk_drewN ?_ _ | refine blk_drew ?_ | refine blk_alloc ?_ _)); exact BK239.out) hb)
                        have n2_ := Aside0.mk (blk_below (g := g260) (o := .cells #[.int .i64 q0, .int .i64 q1, .slice A0_2 l0_2.length c0_2, .int .i64 q3, .int .i64 q4, .int .i64 q5, .int .i64 q6, .int .i64 q7, .int .i64 x8_2] 24 (0, 0)) (by (with_reducible repeat (first | refine blk_drewN ?_ _ | refine blk_drew ?_ | refine blk_alloc ?_ _)); exact BK260.out) hb)
                        have n3_ := Aside0.mk (below_step (by repeat (first | (with_reducible first | exact HB.out | apply below_alloc | apply pw_below_drewN | apply below_drew1 | refine below_set ?_ GE239.out | refine below_set ?_ GE260.out) | exact HB.out)) hb)
                        clear HO_7
                        clear BK239
                        clear BK260
                        clear HB
                        have HO_7 := n0_
                        have BK239 := n1_
                        have BK260 := n2_
                        have HB := n3_
                        clear n0_ n1_ n2_ n3_
                        (try clear hb)
                        (try clear hb2)
                        (try clear hk)
                        (try clear hi)
                        refine hK.out _ _ ⟨(blk_cell BK260.out 0).trans rfl, (blk_cell BK260.out 1).trans rfl, (blk_cell BK260.out 2).trans rfl, (blk_cell BK260.out 3).trans rfl, (blk_cell BK260.out 4).trans rfl, (blk_cell BK260.out 5).trans rfl, (blk_cell BK260.out 6).trans rfl, (blk_cell BK260.out 7).trans rfl, (blk_cell BK260.out 8).trans rfl, (blk_cell BK239.out 0).trans rfl, (blk_cell BK239.out 1).trans rfl, (blk_cell BK239.out 2).trans rfl, (blk_cell BK239.out 3).trans rfl, (blk_cell BK239.out 4).trans rfl, (blk_cell BK239.out 5).trans rfl, (blk_cell BK239.out 6).trans rfl, (blk_cell BK239.out 7).trans rfl, (blk_cell BK239.out 8).trans rfl⟩ (fun hHeld => ?_)
                        clear hK K
                        refine norm_ (a' := ?_) ?_ ?_
                        rotate_left
                        · show Act.put _ (some 71) _ = _
                          simp only [Act.put, List.setIfInBounds_toArray, List.set_cons_zero, List.set_cons_succ, i64_w, i32_w]
                          rfl
                        iterate 3 ((refine pureAt (n := 38) (v := ?_) (a' := ?_) rfl rfl rfl (any_of HT_.out (by kernel_rfl)) (fun _ _ _ h => h) (Or.inl ⟨by rfl, ?_⟩) ?_ ?_; rotate_left; (focus (intro w'; go_simp; with_reducible rfl)); rotate_left; (focus (simp only [Act.put, List.setIfInBounds_toArray, List.set_cons_zero, List.set_cons_succ, i64_w, i32_w]; rfl))))
                        iterate 11 ((refine pureAt (n := 38) (v := undef) (a' := ?_) rfl rfl rfl (any_of HT_.out (by kernel_rfl)) (fun _ _ _ h => h) (Or.inr ⟨by rfl, rfl⟩) ?_ ?_; rotate_left; (focus (simp only [Act.put, List.setIfInBounds_toArray, List.set_cons_zero, List.set_cons_succ, i64_w, i32_w]; rfl))))
                        iterate 2 ((refine pureAt (n := 38) (v := ?_) (a' := ?_) rfl rfl rfl (any_of HT_.out (by kernel_rfl)) (fun _ _ _ h => h) (Or.inl ⟨by rfl, ?_⟩) ?_ ?_; rotate_left; (focus (intro w'; go_simp; with_reducible rfl)); rotate_left; (focus (simp only [Act.put, List.setIfInBounds_toArray, List.set_cons_zero, List.set_cons_succ, i64_w, i32_w]; rfl))))
                        iterate 11 ((refine pureAt (n := 38) (v := undef) (a' := ?_) rfl rfl rfl (any_of HT_.out (by kernel_rfl)) (fun _ _ _ h => h) (Or.inr ⟨by rfl, rfl⟩) ?_ ?_; rotate_left; (focus (simp only [Act.put, List.setIfInBounds_toArray, List.set_cons_zero, List.set_cons_succ, i64_w, i32_w]; rfl))))
                        iterate 2 ((refine pureAt (n := 38) (v := ?_) (a' := ?_) rfl rfl rfl (any_of HT_.out (by kernel_rfl)) (fun _ _ _ h => h) (Or.inl ⟨by rfl, ?_⟩) ?_ ?_; rotate_left; (focus (intro w'; go_simp; with_reducible rfl)); rotate_left; (focus (simp only [Act.put, List.setIfInBounds_toArray, List.set_cons_zero, List.set_cons_succ, i64_w, i32_w]; rfl))))
                        refine done_ (done_of HT_.out (by kernel_rfl)) ?_
                        try go_wp2
                        go_ret
                        exact ⟨by first | rfl | (simp [errW_none, errW_some] <;> rfl) | (simp [*, errW_none, errW_some] <;> rfl), by repeat (first | (with_reducible first | exact HB.out | apply below_alloc | apply pw_below_drewN | apply below_drew1 | refine below_set ?_ GE239.out | refine below_set ?_ GE260.out) | exact HB.out)⟩
                    · replace c54 := Bool.eq_false_iff.mpr c54
                      subst c54
                      have H1 : (some false) = some r := by rw [if_neg (show ¬ (false = true) by decide)] at H; exact H
                      clear H
                      have H := H1
                      clear H1
                      obtain rfl := Option.some.inj H
                      have hcz104_0 : wr.cell? ⟨g239, 0, none⟩ = some (.int .i64 q0) := (blk_cell BK239.out 0).trans rfl
                      have hcz104_1 : wr.cell? ⟨g239, 1, none⟩ = some (.int .i64 q1) := (blk_cell BK239.out 1).trans rfl
                      have hcz104_2 : wr.cell? ⟨g239, 2, none⟩ = some (.slice A0_2 l0_2.length c0_2) := (blk_cell BK239.out 2).trans rfl
                      have hcz104_3 : wr.cell? ⟨g239, 3, none⟩ = some (.int .i64 q3) := (blk_cell BK239.out 3).trans rfl
                      have hcz104_4 : wr.cell? ⟨g239, 4, none⟩ = some (.int .i64 q4) := (blk_cell BK239.out 4).trans rfl
                      have hcz104_5 : wr.cell? ⟨g239, 5, none⟩ = some (.int .i64 q5) := (blk_cell BK239.out 5).trans rfl
                      have hcz104_6 : wr.cell? ⟨g239, 6, none⟩ = some (.int .i64 q6) := (blk_cell BK239.out 6).trans rfl
                      have hcz104_7 : wr.cell? ⟨g239, 7, none⟩ = some (.int .i64 q7) := (blk_cell BK239.out 7).trans rfl
                      have hcz104_8 : wr.cell? ⟨g239, 8, none⟩ = some (.int .i64 q8) := (blk_cell BK239.out 8).trans rfl
                      have hfz104_0 := blk_frozen BK239.out 0
                      have hfz104_1 := blk_frozen BK239.out 1
                      have hfz104_2 := blk_frozen BK239.out 2
                      have hfz104_3 := blk_frozen BK239.out 3
                      have hfz104_4 := blk_frozen BK239.out 4
                      have hfz104_5 := blk_frozen BK239.out 5
                      have hfz104_6 := blk_frozen BK239.out 6
                      have hfz104_7 := blk_frozen BK239.out 7
                      have hfz104_8 := blk_frozen BK239.out 8
                      try go_wp2_with (first | ((with_reducible refine gate_dst (N := 10) rfl ?_); refine box_event ?hg (N := 10) ?hd (cs := #[.int .i64 0, .int .i64 0, .slice none 0 0, .int .i64 0, .int .i64 0, .int .i64 0, .int .i64 0, .int .i64 0, .int .i64 0]) (t := 24) ?hr ?_; (case hd => rfl); (case hg => rfl); (case hr => first | (go_simp; done) | (go_simp; rfl)); intro g260 hg w105 hbox hb; have n0_ := Aside0.mk (Kd.R_below (by (with_reducible repeat (first | apply Kd.R_alloc | apply Kd.R_drewN | apply Kd.R_drew)); exact HO_7.out) hb); have n1_ := Aside0.mk (blk_below (g := g239) (o := .cells #[.int .i64 q0, .int .i64 q1, .slice A0_2 l0_2.length c0_2, .int .i64 q3, .int .i64 q4, .int .i64 q5, .int .i64 q6, .int .i64 q7, .int .i64 q8] 24 (0, 0)) (by (with_reducible repeat (first | refine blk_drewN ?_ _ | refine blk_drew ?_ | refine blk_alloc ?_ _)); exact BK239.out) hb); have n2_ := Aside0.mk (below_step (by repeat (first | (with_reducible first | exact HB.out | apply below_alloc | apply pw_below_drewN | apply below_drew1 | refine below_set ?_ GE239.out) | exact HB.out)) hb); have n3_ := Aside0.mk (hbox); have n4_ := Aside0.mk ((by rw [hg]; exact (below_size (by repeat (first | (with_reducible first | exact HB.out | apply below_alloc | apply pw_below_drewN | apply below_drew1 | refine below_set ?_ GE239.out) | exact HB.out))) : w.heap.size ≤ g260)); have n5_ := Aside0.mk ((by rw [hg]; exact (below_size (by repeat (first | (with_reducible first | exact HB.out | apply below_alloc | apply pw_below_drewN | apply below_drew1 | refine below_set ?_ GE239.out) | exact HB.out))) : w.heap.size ≤ g260)); have n6_ := Aside0.mk ((by rw [hg]; exact Nat.ne_of_lt (blk_lt (g := g239) (o := .cells #[.int .i64 q0, .int .i64 q1, .slice A0_2 l0_2.length c0_2, .int .i64 q3, .int .i64 q4, .int .i64 q5, .int .i64 q6, .int .i64 q7, .int .i64 q8] 24 (0, 0)) (by (with_reducible repeat (first | refine blk_drewN ?_ _ | refine blk_drew ?_ | refine blk_alloc ?_ _)); exact BK239.out)) : g239 ≠ g260)); have n7_ := Aside0.mk ((by rw [hg]; exact Nat.ne_of_gt (blk_lt (g := g239) (o := .cells #[.int .i64 q0, .int .i64 q1, .slice A0_2 l0_2.length c0_2, .int .i64 q3, .int .i64 q4, .int .i64 q5, .int .i64 q6, .int .i64 q7, .int .i64 q8] 24 (0, 0)) (by (with_reducible repeat (first | refine blk_drewN ?_ _ | refine blk_drew ?_ | refine blk_alloc ?_ _)); exact BK239.out)) : g260 ≠ g239)); clear HO_7; clear BK239; clear HB; have HO_7 := n0_; have BK239 := n1_; have HB := n2_; have BK260 := n3_; have GW260 := n4_; have GE260 := n5_; have NB239_260 := n6_; have NB260_239 := n7_; clear n0_ n1_ n2_ n3_ n4_ n5_ n6_ n7_; clear hb hbox hg; have hnb106 := NB260_239.out; have hnc106 := NB239_260.out; have hcz107_0 : w105.cell? ⟨g260, 0, none⟩ = some (.int .i64 0) := (blk_cell BK260.out 0).trans rfl; have hcz107_1 : w105.cell? ⟨g260, 1, none⟩ = some (.int .i64 0) := (blk_cell BK260.out 1).trans rfl; have hcz107_2 : w105.cell? ⟨g260, 2, none⟩ = some (.slice none 0 0) := (blk_cell BK260.out 2).trans rfl; have hcz107_3 : w105.cell? ⟨g260, 3, none⟩ = some (.int .i64 0) := (blk_cell BK260.out 3).trans rfl; have hcz107_4 : w105.cell? ⟨g260, 4, none⟩ = some (.int .i64 0) := (blk_cell BK260.out 4).trans rfl; have hcz107_5 : w105.cell? ⟨g260, 5, none⟩ = some (.int .i64 0) := (blk_cell BK260.out 5).trans rfl; have hcz107_6 : w105.cell? ⟨g260, 6, none⟩ = some (.int .i64 0) := (blk_cell BK260.out 6).trans rfl; have hcz107_7 : w105.cell? ⟨g260, 7, none⟩ = some (.int .i64 0) := (blk_cell BK260.out 7).trans rfl; have hcz107_8 : w105.cell? ⟨g260, 8, none⟩ = some (.int .i64 0) := (blk_cell BK260.out 8).trans rfl; have hfz107_0 := blk_frozen BK260.out 0; have hfz107_1 := blk_frozen BK260.out 1; have hfz107_2 := blk_frozen BK260.out 2; have hfz107_3 := blk_frozen BK260.out 3; have hfz107_4 := blk_frozen BK260.out 4; have hfz107_5 := blk_frozen BK260.out 5; have hfz107_6 := blk_frozen BK260.out 6; have hfz107_7 := blk_frozen BK260.out 7; have hfz107_8 := blk_frozen BK260.out 8))
                      have n0_ : Aside0 (Kd.R Kd.bool 4 ((((((((((w105.setCell ⟨g260, 0, none⟩ (.int .i64 q0)).setCell ⟨g260, 1, none⟩ (.int .i64 q1)).setCell ⟨g260, 2, none⟩ (.slice A0_2 l0_2.length c0_2)).setCell ⟨g260, 3, none⟩ (.int .i64 q3)).setCell ⟨g260, 4, none⟩ (.int .i64 q4)).setCell ⟨g260, 5, none⟩ (.int .i64 q5)).setCell ⟨g260, 6, none⟩ (.int .i64 q6)).setCell ⟨g260, 7, none⟩ (.int .i64 q7)).setCell ⟨g260, 8, none⟩ (.int .i64 q8)).setCell ⟨g260, 8, none⟩ (.int .i64 x8_2)) w.heap.size (fun _ => True) v252 y251) := ⟨by (with_reducible repeat (first | apply Kd.R_alloc | apply Kd.R_drewN | apply Kd.R_drew)); exact Kd.R_mono (Kd.R_far (p := ⟨g260, 8, none⟩) (Kd.R_far (p := ⟨g260, 8, none⟩) (Kd.R_far (p := ⟨g260, 7, none⟩) (Kd.R_far (p := ⟨g260, 6, none⟩) (Kd.R_far (p := ⟨g260, 5, none⟩) (Kd.R_far (p := ⟨g260, 4, none⟩) (Kd.R_far (p := ⟨g260, 3, none⟩) (Kd.R_far (p := ⟨g260, 2, none⟩) (Kd.R_far (p := ⟨g260, 1, none⟩) (Kd.R_far (p := ⟨g260, 0, none⟩) (Kd.R_types HO_7.out BK260.out (by decide)) (fun _ hk => hk.2) (.int .i64 q0)) (fun _ hk => hk.2) (.int .i64 q1)) (fun _ hk => hk.2) (.slice A0_2 l0_2.length c0_2)) (fun _ hk => hk.2) (.int .i64 q3)) (fun _ hk => hk.2) (.int .i64 q4)) (fun _ hk => hk.2) (.int .i64 q5)) (fun _ hk => hk.2) (.int .i64 q6)) (fun _ hk => hk.2) (.int .i64 q7)) (fun _ hk => hk.2) (.int .i64 q8)) (fun _ hk => hk.2) (.int .i64 x8_2)) (fun _ hk => trivial)⟩
                      have n1_ : Aside0 (((((((((((w105.setCell ⟨g260, 0, none⟩ (.int .i64 q0)).setCell ⟨g260, 1, none⟩ (.int .i64 q1)).setCell ⟨g260, 2, none⟩ (.slice A0_2 l0_2.length c0_2)).setCell ⟨g260, 3, none⟩ (.int .i64 q3)).setCell ⟨g260, 4, none⟩ (.int .i64 q4)).setCell ⟨g260, 5, none⟩ (.int .i64 q5)).setCell ⟨g260, 6, none⟩ (.int .i64 q6)).setCell ⟨g260, 7, none⟩ (.int .i64 q7)).setCell ⟨g260, 8, none⟩ (.int .i64 q8)).setCell ⟨g260, 8, none⟩ (.int .i64 x8_2)).heap[g239]? = some (.cells #[.int .i64 q0, .int .i64 q1, .slice A0_2 l0_2.length c0_2, .int .i64 q3, .int .i64 q4, .int .i64 q5, .int .i64 q6, .int .i64 q7, .int .i64 q8] 24 (0, 0))) := ⟨by (with_reducible repeat (first | refine blk_drewN ?_ _ | refine blk_drew ?_ | refine blk_alloc ?_ _)); refine blk_far ?_ NB239_260.out _; (with_reducible repeat (first | refine blk_drewN ?_ _ | refine blk_drew ?_ | refine blk_alloc ?_ _)); refine blk_far ?_ NB239_260.out _; (with_reducible repeat (first | refine blk_drewN ?_ _ | refine blk_drew ?_ | refine blk_alloc ?_ _)); refine blk_far ?_ NB239_260.out _; (with_reducible repeat (first | refine blk_drewN ?_ _ | refine blk_drew ?_ | refine blk_alloc ?_ _)); refine blk_far ?_ NB239_260.out _; (with_reducible repeat (first | refine blk_drewN ?_ _ | refine blk_drew ?_ | refine blk_alloc ?_ _)); refine blk_far ?_ NB239_260.out _; (with_reducible repeat (first | refine blk_drewN ?_ _ | refine blk_drew ?_ | refine blk_alloc ?_ _)); refine blk_far ?_ NB239_260.out _; (with_reducible repeat (first | refine blk_drewN ?_ _ | refine blk_drew ?_ | refine blk_alloc ?_ _)); refine blk_far ?_ NB239_260.out _; (with_reducible repeat (first | refine blk_drewN ?_ _ | refine blk_drew ?_ | refine blk_alloc ?_ _)); refine blk_far ?_ NB239_260.out _; (with_reducible repeat (first | refine blk_drewN ?_ _ | refine blk_drew ?_ | refine blk_alloc ?_ _)); refine blk_far ?_ NB239_260.out _; (with_reducible repeat (first | refine blk_drewN ?_ _ | refine blk_drew ?_ | refine blk_alloc ?_ _)); refine blk_far ?_ NB239_260.out _; (with_reducible repeat (first | refine blk_drewN ?_ _ | refine blk_drew ?_ | refine blk_alloc ?_ _)); exact BK239.out⟩
                      have n2_ : Aside0 (((((((((((w105.setCell ⟨g260, 0, none⟩ (.int .i64 q0)).setCell ⟨g260, 1, none⟩ (.int .i64 q1)).setCell ⟨g260, 2, none⟩ (.slice A0_2 l0_2.length c0_2)).setCell ⟨g260, 3, none⟩ (.int .i64 q3)).setCell ⟨g260, 4, none⟩ (.int .i64 q4)).setCell ⟨g260, 5, none⟩ (.int .i64 q5)).setCell ⟨g260, 6, none⟩ (.int .i64 q6)).setCell ⟨g260, 7, none⟩ (.int .i64 q7)).setCell ⟨g260, 8, none⟩ (.int .i64 q8)).setCell ⟨g260, 8, none⟩ (.int .i64 x8_2)).heap[g260]? = some (.cells #[.int .i64 q0, .int .i64 q1, .slice A0_2 l0_2.length c0_2, .int .i64 q3, .int .i64 q4, .int .i64 q5, .int .i64 q6, .int .i64 q7, .int .i64 x8_2] 24 (0, 0))) := ⟨by (with_reducible repeat (first | refine blk_drewN ?_ _ | refine blk_drew ?_ | refine blk_alloc ?_ _)); refine blk_put (cs := #[.int .i64 q0, .int .i64 q1, .slice A0_2 l0_2.length c0_2, .int .i64 q3, .int .i64 q4, .int .i64 q5, .int .i64 q6, .int .i64 q7, .int .i64 q8]) ?_ 8 _ rfl; (with_reducible repeat (first | refine blk_drewN ?_ _ | refine blk_drew ?_ | refine blk_alloc ?_ _)); refine blk_put (cs := #[.int .i64 q0, .int .i64 q1, .slice A0_2 l0_2.length c0_2, .int .i64 q3, .int .i64 q4, .int .i64 q5, .int .i64 q6, .int .i64 q7, .int .i64 0]) ?_ 8 _ rfl; (with_reducible repeat (first | refine blk_drewN ?_ _ | refine blk_drew ?_ | refine blk_alloc ?_ _)); refine blk_put (cs := #[.int .i64 q0, .int .i64 q1, .slice A0_2 l0_2.length c0_2, .int .i64 q3, .int .i64 q4, .int .i64 q5, .int .i64 q6, .int .i64 0, .int .i64 0]) ?_ 7 _ rfl; (with_reducible repeat (first | refine blk_drewN ?_ _ | refine blk_drew ?_ | refine blk_alloc ?_ _)); refine blk_put (cs := #[.int .i64 q0, .int .i64 q1, .slice A0_2 l0_2.length c0_2, .int .i64 q3, .int .i64 q4, .int .i64 q5, .int .i64 0, .int .i64 0, .int .i64 0]) ?_ 6 _ rfl; (with_reducible repeat (first | refine blk_drewN ?_ _ | refine blk_drew ?_ | refine blk_alloc ?_ _)); refine blk_put (cs := #[.int .i64 q0, .int .i64 q1, .slice A0_2 l0_2.length c0_2, .int .i64 q3, .int .i64 q4, .int .i64 0, .int .i64 0, .int .i64 0, .int .i64 0]) ?_ 5 _ rfl; (with_reducible repeat (first | refine blk_drewN ?_ _ | refine blk_drew ?_ | refine blk_alloc ?_ _)); refine blk_put (cs := #[.int .i64 q0, .int .i64 q1, .slice A0_2 l0_2.length c0_2, .int .i64 q3, .int .i64 0, .int .i64 0, .int .i64 0, .int .i64 0, .int .i64 0]) ?_ 4 _ rfl; (with_reducible repeat (first | refine blk_drewN ?_ _ | refine blk_drew ?_ | refine blk_alloc ?_ _)); refine blk_put (cs := #[.int .i64 q0, .int .i64 q1, .slice A0_2 l0_2.length c0_2, .int .i64 0, .int .i64 0, .int .i64 0, .int .i64 0, .int .i64 0, .int .i64 0]) ?_ 3 _ rfl; (with_reducible repeat (first | refine blk_drewN ?_ _ | refine blk_drew ?_ | refine blk_alloc ?_ _)); refine blk_put (cs := #[.int .i64 q0, .int .i64 q1, .slice none 0 0, .int .i64 0, .int .i64 0, .int .i64 0, .int .i64 0, .int .i64 0, .int .i64 0]) ?_ 2 _ rfl; (with_reducible repeat (first | refine blk_drewN ?_ _ | refine blk_drew ?_ | refine blk_alloc ?_ _)); refine blk_put (cs := #[.int .i64 q0, .int .i64 0, .slice none 0 0, .int .i64 0, .int .i64 0, .int .i64 0, .int .i64 0, .int .i64 0, .int .i64 0]) ?_ 1 _ rfl; (with_reducible repeat (first | refine blk_drewN ?_ _ | refine blk_drew ?_ | refine blk_alloc ?_ _)); refine blk_put (cs := #[.int .i64 0, .int .i64 0, .slice none 0 0, .int .i64 0, .int .i64 0, .int .i64 0, .int .i64 0, .int .i64 0, .int .i64 0]) ?_ 0 _ rfl; (with_reducible repeat (first | refine blk_drewN ?_ _ | refine blk_drew ?_ | refine blk_alloc ?_ _)); exact BK260.out⟩
                      have n3_ : Aside0 (Below w.heap.size w ((((((((((w105.setCell ⟨g260, 0, none⟩ (.int .i64 q0)).setCell ⟨g260, 1, none⟩ (.int .i64 q1)).setCell ⟨g260, 2, none⟩ (.slice A0_2 l0_2.length c0_2)).setCell ⟨g260, 3, none⟩ (.int .i64 q3)).setCell ⟨g260, 4, none⟩ (.int .i64 q4)).setCell ⟨g260, 5, none⟩ (.int .i64 q5)).setCell ⟨g260, 6, none⟩ (.int .i64 q6)).setCell ⟨g260, 7, none⟩ (.int .i64 q7)).setCell ⟨g260, 8, none⟩ (.int .i64 q8)).setCell ⟨g260, 8, none⟩ (.int .i64 x8_2))) := ⟨by repeat (first | (with_reducible first | exact HB.out | apply below_alloc | apply pw_below_drewN | apply below_drew1 | refine below_set ?_ GE239.out | refine below_set ?_ GE260.out) | exact HB.out)⟩
                      (try clear HO_7)
                      (try clear BK239)
                      (try clear BK260)
                      (try clear HB)
                      generalize ((((((((((w105.setCell ⟨g260, 0, none⟩ (.int .i64 q0)).setCell ⟨g260, 1, none⟩ (.int .i64 q1)).setCell ⟨g260, 2, none⟩ (.slice A0_2 l0_2.length c0_2)).setCell ⟨g260, 3, none⟩ (.int .i64 q3)).setCell ⟨g260, 4, none⟩ (.int .i64 q4)).setCell ⟨g260, 5, none⟩ (.int .i64 q5)).setCell ⟨g260, 6, none⟩ (.int .i64 q6)).setCell ⟨g260, 7, none⟩ (.int .i64 q7)).setCell ⟨g260, 8, none⟩ (.int .i64 q8)).setCell ⟨g260, 8, none⟩ (.int .i64 x8_2)) = w108 at n0_ n1_ n2_ n3_ ⊢
                      have HO_7 := n0_
                      have BK239 := n1_
                      have BK260 := n2_
                      have HB := n3_
                      clear n0_ n1_ n2_ n3_
                      have n0_ := Aside0.mk (Kd.R_drew HO_7.out)
                      have n1_ := Aside0.mk (blk_drew BK239.out)
                      have n2_ := Aside0.mk (blk_drew BK260.out)
                      have n3_ := Aside0.mk (below_drew1 HB.out)
                      clear HO_7
                      clear BK239
                      clear BK260
                      clear HB
                      have HO_7 := n0_
                      have BK239 := n1_
                      have BK260 := n2_
                      have HB := n3_
                      clear n0_ n1_ n2_ n3_
                      refine start_ (n := 38) (S := fun w' => w'.cell? ⟨g260, 0, none⟩ = some (.int .i64 q0) ∧ w'.cell? ⟨g260, 1, none⟩ = some (.int .i64 q1) ∧ w'.cell? ⟨g260, 2, none⟩ = some (.slice A0_2 l0_2.length c0_2) ∧ w'.cell? ⟨g260, 3, none⟩ = some (.int .i64 q3) ∧ w'.cell? ⟨g260, 4, none⟩ = some (.int .i64 q4) ∧ w'.cell? ⟨g260, 5, none⟩ = some (.int .i64 q5) ∧ w'.cell? ⟨g260, 6, none⟩ = some (.int .i64 q6) ∧ w'.cell? ⟨g260, 7, none⟩ = some (.int .i64 q7) ∧ w'.cell? ⟨g260, 8, none⟩ = some (.int .i64 x8_2)) (ds := []) (pbn 38 38) (by kernel_rfl) rfl rfl ⟨(blk_cell BK260.out 0).trans rfl, (blk_cell BK260.out 1).trans rfl, (blk_cell BK260.out 2).trans rfl, (blk_cell BK260.out 3).trans rfl, (blk_cell BK260.out 4).trans rfl, (blk_cell BK260.out 5).trans rfl, (blk_cell BK260.out 6).trans rfl, (blk_cell BK260.out 7).trans rfl, (blk_cell BK260.out 8).trans rfl⟩ (fun hHeld => ?_); refine with_tabW pylonlaw26_UnitConcatenation.tab13 pylonlaw26_UnitConcatenation.bits13 (fun HT_ HW_ => ?_)
                      generalize w108.drew = w109 at HO_7 BK239 BK260 HB hHeld ⊢
                      (refine takeAt (n := 38) (v := ?_) (a' := ?_) rfl rfl rfl (take_ofW HT_.out HW_.out (by kernel_rfl)) (fun _ _ _ h => h) (Or.inl ⟨by rfl, ?_⟩) hHeld ?_ ?_; rotate_left; (focus (rintro w' ⟨s0, s1, s2, s3, s4, s5, s6, s7, s8⟩; go_simp; with_reducible rfl)); rotate_left; (focus (simp only [Act.put, List.setIfInBounds_toArray, List.set_cons_zero, List.set_cons_succ, i64_w, i32_w]; rfl)))
                      refine one_ (i := 1) (N := some 64) (pbn 38 36) rfl rfl (one_of HT_.out (by kernel_rfl)) (by decide) (fun K hK => ?_)
                      refine goes_ Try.func21 (by kernel_rfl) rfl #[.agg #[.int .i64 q0, .int .i64 q1, .slice A0_2 l0_2.length c0_2, .int .i64 q3, .int .i64 q4, .int .i64 q5, .int .i64 q6, .int .i64 q7, .int .i64 x8_2]] (by rfl) rfl rfl (by (try simp only [List.map_toArray, List.map_cons, List.map_nil]); first | done | rfl | (simp only [List.length_drop, List.length_take]; rfl)) ?_
                      with_reducible refine (pylonlaw26_may.calls k2 q0 q1 _ _ l0_2 q3 q4 q5 q6 q7 x8_2 false _ ?side1 ?side2 A53.out).mono ?_
                      (case side1 => repeat (first | exact (Kd.C_below HR0_2.out HB.out) | (with_reducible refine Kd.C_alloc ?_ _) | (with_reducible refine Kd.C_drewN ?_ _) | (with_reducible refine Kd.C_drew ?_)))
                      (case side2 => exact HC0_2.out)
                      rintro e w110 ⟨rfl, hb⟩
                      refine ⟨_, rfl, ?_⟩
                      have n0_ := Aside0.mk (Kd.R_below (by (with_reducible repeat (first | apply Kd.R_alloc | apply Kd.R_drewN | apply Kd.R_drew)); exact HO_7.out) hb)
                      have n1_ := Aside0.mk (blk_below (g := g239) (o := .cells #[.int .i64 q0, .int .i64 q1, .slice A0_2 l0_2.length c0_2, .int .i64 q3, .int .i64 q4, .int .i64 q5, .int .i64 q6, .int .i64 q7, .int .i64 q8] 24 (0, 0)) (by (with_reducible repeat (first | refine blk_drewN ?_ _ | refine blk_drew ?_ | refine blk_alloc ?_ _)); exact BK239.out) hb)
                      have n2_ := Aside0.mk (blk_below (g := g260) (o := .cells #[.int .i64 q0, .int .i64 q1, .slice A0_2 l0_2.length c0_2, .int .i64 q3, .int .i64 q4, .int .i64 q5, .int .i64 q6, .int .i64 q7, .int .i64 x8_2] 24 (0, 0)) (by (with_reducible repeat (first | refine blk_drewN ?_ _ | refine blk_drew ?_ | refine blk_alloc ?_ _)); exact BK260.out) hb)
                      have n3_ := Aside0.mk (below_step (by repeat (first | (with_reducible first | exact HB.out | apply below_alloc | apply pw_below_drewN | apply below_drew1 | refine below_set ?_ GE239.out | refine below_set ?_ GE260.out) | exact HB.out)) hb)
                      clear HO_7
                      clear BK239
                      clear BK260
                      clear HB
                      have HO_7 := n0_
                      have BK239 := n1_
                      have BK260 := n2_
                      have HB := n3_
                      clear n0_ n1_ n2_ n3_
                      (try clear hb)
                      (try clear hb2)
                      (try clear hk)
                      (try clear hi)
                      refine hK.out _ _ ⟨(blk_cell BK260.out 0).trans rfl, (blk_cell BK260.out 1).trans rfl, (blk_cell BK260.out 2).trans rfl, (blk_cell BK260.out 3).trans rfl, (blk_cell BK260.out 4).trans rfl, (blk_cell BK260.out 5).trans rfl, (blk_cell BK260.out 6).trans rfl, (blk_cell BK260.out 7).trans rfl, (blk_cell BK260.out 8).trans rfl⟩ (fun hHeld => ?_)
                      clear hK K
                      refine norm_ (a' := ?_) ?_ ?_
                      rotate_left
                      · show Act.put _ (some 64) _ = _
                        simp only [Act.put, List.setIfInBounds_toArray, List.set_cons_zero, List.set_cons_succ, i64_w, i32_w]
                        rfl
                      (refine pureAt (n := 38) (v := ?_) (a' := ?_) rfl rfl rfl (any_of HT_.out (by kernel_rfl)) (fun _ _ _ h => h) (Or.inl ⟨by rfl, ?_⟩) ?_ ?_; rotate_left; (focus (intro w'; go_simp; with_reducible rfl)); rotate_left; (focus (simp only [Act.put, List.setIfInBounds_toArray, List.set_cons_zero, List.set_cons_succ, i64_w, i32_w]; rfl)))
                      iterate 7 ((refine pureAt (n := 38) (v := undef) (a' := ?_) rfl rfl rfl (any_of HT_.out (by kernel_rfl)) (fun _ _ _ h => h) (Or.inr ⟨by rfl, rfl⟩) ?_ ?_; rotate_left; (focus (simp only [Act.put, List.setIfInBounds_toArray, List.set_cons_zero, List.set_cons_succ, i64_w, i32_w]; rfl))))
                      iterate 2 ((refine pureAt (n := 38) (v := ?_) (a' := ?_) rfl rfl rfl (any_of HT_.out (by kernel_rfl)) (fun _ _ _ h => h) (Or.inl ⟨by rfl, ?_⟩) ?_ ?_; rotate_left; (focus (intro w'; go_simp; with_reducible rfl)); rotate_left; (focus (simp only [Act.put, List.setIfInBounds_toArray, List.set_cons_zero, List.set_cons_succ, i64_w, i32_w]; rfl))))
                      iterate 11 ((refine pureAt (n := 38) (v := undef) (a' := ?_) rfl rfl rfl (any_of HT_.out (by kernel_rfl)) (fun _ _ _ h => h) (Or.inr ⟨by rfl, rfl⟩) ?_ ?_; rotate_left; (focus (simp only [Act.put, List.setIfInBounds_toArray, List.set_cons_zero, List.set_cons_succ, i64_w, i32_w]; rfl))))
                      iterate 2 ((refine pureAt (n := 38) (v := ?_) (a' := ?_) rfl rfl rfl (any_of HT_.out (by kernel_rfl)) (fun _ _ _ h => h) (Or.inl ⟨by rfl, ?_⟩) ?_ ?_; rotate_left; (focus (intro w'; go_simp; with_reducible rfl)); rotate_left; (focus (simp only [Act.put, List.setIfInBounds_toArray, List.set_cons_zero, List.set_cons_succ, i64_w, i32_w]; rfl))))
                      iterate 11 ((refine pureAt (n := 38) (v := undef) (a' := ?_) rfl rfl rfl (any_of HT_.out (by kernel_rfl)) (fun _ _ _ h => h) (Or.inr ⟨by rfl, rfl⟩) ?_ ?_; rotate_left; (focus (simp only [Act.put, List.setIfInBounds_toArray, List.set_cons_zero, List.set_cons_succ, i64_w, i32_w]; rfl))))
                      iterate 2 ((refine pureAt (n := 38) (v := ?_) (a' := ?_) rfl rfl rfl (any_of HT_.out (by kernel_rfl)) (fun _ _ _ h => h) (Or.inl ⟨by rfl, ?_⟩) ?_ ?_; rotate_left; (focus (intro w'; go_simp; with_reducible rfl)); rotate_left; (focus (simp only [Act.put, List.setIfInBounds_toArray, List.set_cons_zero, List.set_cons_succ, i64_w, i32_w]; rfl))))
                      refine done_ (done_of HT_.out (by kernel_rfl)) ?_
                      try go_wp2
                      go_ret
                      exact ⟨by first | rfl | (simp [errW_none, errW_some] <;> rfl) | (simp [*, errW_none, errW_some] <;> rfl), by repeat (first | (with_reducible first | exact HB.out | apply below_alloc | apply pw_below_drewN | apply below_drew1 | refine below_set ?_ GE239.out | refine below_set ?_ GE260.out) | exact HB.out)⟩
            · replace c38 := Bool.eq_false_iff.mpr c38
              subst c38
              have H1 : ((unit_Feasible.f kj3 q0 q1 l0_2 q3 q4 q5 q6 q7 q8 y251).bind fun t255 => (some (!t255))) = some r := by rw [if_neg (show ¬ (false = true) by decide)] at H; exact H
              clear H
              have H := H1
              clear H1
              replace H := Option.bind_eq_some_iff.mp H
              obtain ⟨t255, A1110, H⟩ := H
              replace H : (some (!t255)) = some r := H
              have A111 := Aside0.mk A1110
              clear A1110
              obtain rfl := Option.some.inj H
              go_wp2_with (first | ((with_reducible refine gate_dst (N := 29) rfl ?_); refine Kd.R_lit Kd.bool _ 4 ?hg (N := 29) ?hd (xs := ([] : List Bool)) (inner := []) (ok := fun _ => True) (okp := fun _ => True) ?hr ?hp (fun _ hk => hk) trivial (Below.refl _ _) (Nat.le_refl _) (by simp) ?_; (case hd => rfl); (case hg => rfl); (case hr => first | (go_simp; done) | (go_simp; rfl)); (case hp => exact (Reps.none _ _)); intro v246 w112 ho113 hb hg_ hnew_; clear hg_ hnew_; (first | rw [← Ny245.out] at ho113 | (simp only [Int.reduceToNat] at ho113; rw [← Ny245.out] at ho113)); have n0_ := Aside0.mk (Kd.R_lower ho113 (below_size (by repeat (first | (with_reducible first | exact HB.out | apply below_alloc | apply pw_below_drewN | apply below_drew1 | refine below_set ?_ GE239.out) | exact HB.out)))); have n1_ := Aside0.mk (blk_below (g := g239) (o := .cells #[.int .i64 q0, .int .i64 q1, .slice A0_2 l0_2.length c0_2, .int .i64 q3, .int .i64 q4, .int .i64 q5, .int .i64 q6, .int .i64 q7, .int .i64 q8] 24 (0, 0)) (by (with_reducible repeat (first | refine blk_drewN ?_ _ | refine blk_drew ?_ | refine blk_alloc ?_ _)); exact BK239.out) hb); have n2_ := Aside0.mk (below_step (by repeat (first | (with_reducible first | exact HB.out | apply below_alloc | apply pw_below_drewN | apply below_drew1 | refine below_set ?_ GE239.out) | exact HB.out)) hb); clear BK239; clear HB; have HO247 := n0_; have BK239 := n1_; have HB := n2_; clear n0_ n1_ n2_; clear hb ho113) | ((with_reducible refine gate_builtin (b := .append) (xs := #[.tmp 29, .tmp 30]) rfl ?_); at_builtin; refine Kd.R_append_rows Kd.bool (w0 := w) w.heap.size rfl (.tmp 29) (.tmp 30) 32 4 (.bool false) 1 rfl Try.underlying32 info4 rfl (by decide) (by omega) v246 y245 l1 _ _ _ (fun _ => True) (fun _ => False) rfl rfl ?aO ?aR (fun _ _ h => h) (fun _ h => h.elim) ?aF ?aB ?aS ?aL ?_; (case aR => repeat (first | exact (Kd.C_below HR1.out HB.out) | (with_reducible refine Kd.C_alloc ?_ _) | (with_reducible refine Kd.C_drewN ?_ _) | (with_reducible refine Kd.C_drew ?_))); (case aB => exact (by repeat (first | (with_reducible first | exact HB.out | apply below_alloc | apply pw_below_drewN | apply below_drew1 | refine below_set ?_ GE239.out) | exact HB.out))); (case aF => exact (fun _ _ => trivial)); (case aO => exact (by (with_reducible repeat (first | apply Kd.R_alloc | apply Kd.R_drewN | apply Kd.R_drew)); exact HO247.out)); (case aS => exact (below_size (by repeat (first | (with_reducible first | exact HB.out | apply below_alloc | apply pw_below_drewN | apply below_drew1 | refine below_set ?_ GE239.out) | exact HB.out)))); (case aL => have := LMc35.out; omega); intro v249 w114 ho hb hg hat; rw [← Ny248.out] at ho; have n0_ := Aside0.mk (blk_grown (g := g239) (o := .cells #[.int .i64 q0, .int .i64 q1, .slice A0_2 l0_2.length c0_2, .int .i64 q3, .int .i64 q4, .int .i64 q5, .int .i64 q6, .int .i64 q7, .int .i64 q8] 24 (0, 0)) (by (with_reducible repeat (first | refine blk_drewN ?_ _ | refine blk_drew ?_ | refine blk_alloc ?_ _)); exact BK239.out) hg (Kd.R_ne HO247.out BK239.out (by decide))); have n1_ := Aside0.mk (hb); have n2_ := Aside0.mk (ho); clear BK239; clear HB; clear HO247; have BK239 := n0_; have HB := n1_; have HO250 := n2_; clear n0_ n1_ n2_; clear ho hb hg hat) | ((with_reducible refine gate_builtin (b := .append) (xs := #[.tmp 31, .tmp 32]) rfl ?_); at_builtin; refine Kd.R_append_rows Kd.bool (w0 := w) w.heap.size rfl (.tmp 31) (.tmp 32) 32 4 (.bool false) 1 rfl Try.underlying32 info4 rfl (by decide) (by omega) v249 y248 l2 _ _ _ (fun _ => True) (fun _ => False) rfl rfl ?aO ?aR (fun _ _ h => h) (fun _ h => h.elim) ?aF ?aB ?aS ?aL ?_; (case aR => repeat (first | exact (Kd.C_below HR2.out HB.out) | (with_reducible refine Kd.C_alloc ?_ _) | (with_reducible refine Kd.C_drewN ?_ _) | (with_reducible refine Kd.C_drew ?_))); (case aB => exact (by repeat (first | (with_reducible first | exact HB.out | apply below_alloc | apply pw_below_drewN | apply below_drew1 | refine below_set ?_ GE239.out) | exact HB.out))); (case aF => exact (fun _ _ => trivial)); (case aO => exact (by (with_reducible repeat (first | apply Kd.R_alloc | apply Kd.R_drewN | apply Kd.R_drew)); exact HO250.out)); (case aS => exact (below_size (by repeat (first | (with_reducible first | exact HB.out | apply below_alloc | apply pw_below_drewN | apply below_drew1 | refine below_set ?_ GE239.out) | exact HB.out)))); (case aL => have := LMc36.out; omega); intro v252 w115 ho hb hg hat; rw [← Ny251.out] at ho; have n0_ := Aside0.mk (blk_grown (g := g239) (o := .cells #[.int .i64 q0, .int .i64 q1, .slice A0_2 l0_2.length c0_2, .int .i64 q3, .int .i64 q4, .int .i64 q5, .int .i64 q6, .int .i64 q7, .int .i64 q8] 24 (0, 0)) (by (with_reducible repeat (first | refine blk_drewN ?_ _ | refine blk_drew ?_ | refine blk_alloc ?_ _)); exact BK239.out) hg (Kd.R_ne HO250.out BK239.out (by decide))); have n1_ := Aside0.mk (hb); have n2_ := Aside0.mk (ho); clear BK239; clear HB; clear HO250; have BK239 := n0_; have HB := n1_; have HO253 := n2_; clear n0_ n1_ n2_; clear ho hb hg hat; have hcz116_0 : w115.cell? ⟨g239, 0, none⟩ = some (.int .i64 q0) := (blk_cell BK239.out 0).trans rfl; have hcz116_1 : w115.cell? ⟨g239, 1, none⟩ = some (.int .i64 q1) := (blk_cell BK239.out 1).trans rfl; have hcz116_2 : w115.cell? ⟨g239, 2, none⟩ = some (.slice A0_2 l0_2.length c0_2) := (blk_cell BK239.out 2).trans rfl; have hcz116_3 : w115.cell? ⟨g239, 3, none⟩ = some (.int .i64 q3) := (blk_cell BK239.out 3).trans rfl; have hcz116_4 : w115.cell? ⟨g239, 4, none⟩ = some (.int .i64 q4) := (blk_cell BK239.out 4).trans rfl; have hcz116_5 : w115.cell? ⟨g239, 5, none⟩ = some (.int .i64 q5) := (blk_cell BK239.out 5).trans rfl; have hcz116_6 : w115.cell? ⟨g239, 6, none⟩ = some (.int .i64 q6) := (blk_cell BK239.out 6).trans rfl; have hcz116_7 : w115.cell? ⟨g239, 7, none⟩ = some (.int .i64 q7) := (blk_cell BK239.out 7).trans rfl; have hcz116_8 : w115.cell? ⟨g239, 8, none⟩ = some (.int .i64 q8) := (blk_cell BK239.out 8).trans rfl; have hfz116_0 := blk_frozen BK239.out 0; have hfz116_1 := blk_frozen BK239.out 1; have hfz116_2 := blk_frozen BK239.out 2; have hfz116_3 := blk_frozen BK239.out 3; have hfz116_4 := blk_frozen BK239.out 4; have hfz116_5 := blk_frozen BK239.out 5; have hfz116_6 := blk_frozen BK239.out 6; have hfz116_7 := blk_frozen BK239.out 7; have hfz116_8 := blk_frozen BK239.out 8) | ((with_reducible refine gate_callee (f := 22) rfl ?_); refine goesL_ (some 36) rfl rfl Try.func22 (by kernel_rfl) rfl #[.agg #[.int .i64 q0, .int .i64 q1, .slice A0_2 l0_2.length c0_2, .int .i64 q3, .int .i64 q4, .int .i64 q5, .int .i64 q6, .int .i64 q7, .int .i64 q8], .slice A1 l1.length c1] rfl (by (try simp only [List.map_toArray, List.map_cons, List.map_nil]); first | done | rfl | (simp only [List.length_drop, List.length_take]; rfl)) ?_; (with_reducible refine (unit_Feasible.calls kj3 q0 q1 _ _ l0_2 q3 q4 q5 q6 q7 q8 _ _ l1 false _ ?side1 ?side2 ?side3 ?side4 A37.out).mono ?_); (case side1 => repeat (first | exact (Kd.C_below HR0_2.out HB.out) | (with_reducible refine Kd.C_alloc ?_ _) | (with_reducible refine Kd.C_drewN ?_ _) | (with_reducible refine Kd.C_drew ?_))); (case side2 => exact HC0_2.out); (case side3 => repeat (first | exact (Kd.C_below HR1.out HB.out) | (with_reducible refine Kd.C_alloc ?_ _) | (with_reducible refine Kd.C_drewN ?_ _) | (with_reducible refine Kd.C_drew ?_))); (case side4 => exact HC1.out); rintro e w117 ⟨rfl, hb⟩; refine ⟨_, rfl, ?_⟩; have n0_ := Aside0.mk (Kd.R_below (by (with_reducible repeat (first | apply Kd.R_alloc | apply Kd.R_drewN | apply Kd.R_drew)); exact HO253.out) hb); have n1_ := Aside0.mk (blk_below (g := g239) (o := .cells #[.int .i64 q0, .int .i64 q1, .slice A0_2 l0_2.length c0_2, .int .i64 q3, .int .i64 q4, .int .i64 q5, .int .i64 q6, .int .i64 q7, .int .i64 q8] 24 (0, 0)) (by (with_reducible repeat (first | refine blk_drewN ?_ _ | refine blk_drew ?_ | refine blk_alloc ?_ _)); exact BK239.out) hb); have n2_ := Aside0.mk (below_step (by repeat (first | (with_reducible first | exact HB.out | apply below_alloc | apply pw_below_drewN | apply below_drew1 | refine below_set ?_ GE239.out) | exact HB.out)) hb); clear HO253; clear BK239; clear HB; have HO253 := n0_; have BK239 := n1_; have HB := n2_; clear n0_ n1_ n2_; (try clear hb); (try clear hb2); (try clear hk); (try clear hi); have hcz118_0 : w117.cell? ⟨g239, 0, none⟩ = some (.int .i64 q0) := (blk_cell BK239.out 0).trans rfl; have hcz118_1 : w117.cell? ⟨g239, 1, none⟩ = some (.int .i64 q1) := (blk_cell BK239.out 1).trans rfl; have hcz118_2 : w117.cell? ⟨g239, 2, none⟩ = some (.slice A0_2 l0_2.length c0_2) := (blk_cell BK239.out 2).trans rfl; have hcz118_3 : w117.cell? ⟨g239, 3, none⟩ = some (.int .i64 q3) := (blk_cell BK239.out 3).trans rfl; have hcz118_4 : w117.cell? ⟨g239, 4, none⟩ = some (.int .i64 q4) := (blk_cell BK239.out 4).trans rfl; have hcz118_5 : w117.cell? ⟨g239, 5, none⟩ = some (.int .i64 q5) := (blk_cell BK239.out 5).trans rfl; have hcz118_6 : w117.cell? ⟨g239, 6, none⟩ = some (.int .i64 q6) := (blk_cell BK239.out 6).trans rfl; have hcz118_7 : w117.cell? ⟨g239, 7, none⟩ = some (.int .i64 q7) := (blk_cell BK239.out 7).trans rfl; have hcz118_8 : w117.cell? ⟨g239, 8, none⟩ = some (.int .i64 q8) := (blk_cell BK239.out 8).trans rfl; have hfz118_0 := blk_frozen BK239.out 0; have hfz118_1 := blk_frozen BK239.out 1; have hfz118_2 := blk_frozen BK239.out 2; have hfz118_3 := blk_frozen BK239.out 3; have hfz118_4 := blk_frozen BK239.out 4; have hfz118_5 := blk_frozen BK239.out 5; have hfz118_6 := blk_frozen BK239.out 6; have hfz118_7 := blk_frozen BK239.out 7; have hfz118_8 := blk_frozen BK239.out 8; obtain ⟨Ao119, co119, eo119⟩ := Kd.R_slice HO253.out; subst eo119) | ((with_reducible refine gate_callee (f := 22) rfl ?_); refine goesL_ (some 40) rfl rfl Try.func22 (by kernel_rfl) rfl #[.agg #[.int .i64 q0, .int .i64 q1, .slice A0_2 l0_2.length c0_2, .int .i64 q3, .int .i64 q4, .int .i64 q5, .int .i64 q6, .int .i64 q7, .int .i64 q8], .slice Ao119 y251.length co119] rfl (by (try simp only [List.map_toArray, List.map_cons, List.map_nil]); first | done | rfl | (simp only [List.length_drop, List.length_take]; rfl)) ?_; (with_reducible refine (unit_Feasible.calls kj3 q0 q1 _ _ l0_2 q3 q4 q5 q6 q7 q8 _ _ y251 t255 _ ?side1 ?side2 ?side3 ?side4 A111.out).mono ?_); (case side1 => repeat (first | exact (Kd.C_below HR0_2.out HB.out) | (with_reducible refine Kd.C_alloc ?_ _) | (with_reducible refine Kd.C_drewN ?_ _) | (with_reducible refine Kd.C_drew ?_))); (case side2 => exact HC0_2.out); (case side3 => repeat (first | exact (Kd.R_reads' HO253.out).2.2 | (with_reducible refine Kd.C_alloc ?_ _) | (with_reducible refine Kd.C_drewN ?_ _) | (with_reducible refine Kd.C_drew ?_))); (case side4 => exact (Kd.R_reads' HO253.out).2.1); rintro e w120 ⟨rfl, hb⟩; refine ⟨_, rfl, ?_⟩; have n0_ := Aside0.mk (Kd.R_below (by (with_reducible repeat (first | apply Kd.R_alloc | apply Kd.R_drewN | apply Kd.R_drew)); exact HO253.out) hb); have n1_ := Aside0.mk (blk_below (g := g239) (o := .cells #[.int .i64 q0, .int .i64 q1, .slice A0_2 l0_2.length c0_2, .int .i64 q3, .int .i64 q4, .int .i64 q5, .int .i64 q6, .int .i64 q7, .int .i64 q8] 24 (0, 0)) (by (with_reducible repeat (first | refine blk_drewN ?_ _ | refine blk_drew ?_ | refine blk_alloc ?_ _)); exact BK239.out) hb); have n2_ := Aside0.mk (below_step (by repeat (first | (with_reducible first | exact HB.out | apply below_alloc | apply pw_below_drewN | apply below_drew1 | refine below_set ?_ GE239.out) | exact HB.out)) hb); clear HO253; clear BK239; clear HB; have HO253 := n0_; have BK239 := n1_; have HB := n2_; clear n0_ n1_ n2_; (try clear hb); (try clear hb2); (try clear hk); (try clear hi)))
              go_ret
              exact ⟨by first | rfl | (simp [errW_none, errW_some] <;> rfl) | (simp [*, errW_none, errW_some] <;> rfl), by repeat (first | (with_reducible first | exact HB.out | apply below_alloc | apply pw_below_drewN | apply below_drew1 | refine below_set ?_ GE239.out) | exact HB.out)⟩
          · rw [if_neg c36] at H
            exact absurd H (by simp)
        · rw [if_neg c35] at H
          exact absurd H (by simp)

end Go.Proofs.Ytelklgdmhnkenaa.U
