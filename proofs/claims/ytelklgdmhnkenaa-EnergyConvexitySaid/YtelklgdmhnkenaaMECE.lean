/- The EnergyConvexity law, for every input that can be read: the call returns true, and the arguments read afterwards as before. No condition. (Last of the texts of this proof.) -/
import Derived.Test.YtelklgdmhnkenaaMECA
import Derived.Test.YtelklgdmhnkenaaMECD
import Derived.Deep.Slices
import Derived.Deep.Fields
import Derived.ProofKit
import Derived.OpenShut
import Derived.ChangeOld
import Derived.SizedLaws
import Derived.Test.YtelklgdmhnkenaaRows
import Derived.WalkKit
import Derived.Below
set_option linter.unusedVariables false
set_option linter.unusedSimpArgs false
open Go.RowKit Go.Proofs.YtelklgdmhnkenaaW.PrintWords Go.Proofs.YtelklgdmhnkenaaW.PrintLast Go.Proofs.YtelklgdmhnkenaaW.PrintMore
namespace Go.Proofs.Ytelklgdmhnkenaa.U
attribute [local go_sem] max2_int min2_int max_two min_two max_three min_three max_four min_four
def pylonlaw28_awake.f (k : Nat)  : Option (Bool) := (pylonlaw28_ex.f).bind fun t745 => ((some (([true, true] : List Bool) : List Bool)).bind fun y748 => ((energy_Range.f k t745 y748).bind fun bt751 => ((energy_LeastCost.f k t745 y748 1).bind fun bt754 => ((energy_LeastCost.f k t745 y748 16).bind fun bt756 => ((energy_LeastCost.f k t745 y748 (-1)).bind fun bt758 => (if bt751.1 = 2 then (if bt751.2.1 = 15 then (if bt751.2.2 = 0 then ((pylonlaw28_gives.f k t745 y748 7 9 (([5, 2] : List Int))).bind fun t763 => (if t763 = true then ((pylonlaw28_gives.f k t745 y748 9 14 (([5, 4] : List Int))).bind fun t767 => (if t767 = true then ((pylonlaw28_gives.f k t745 (([false, true] : List Bool)) 4 9 (([0, 4] : List Int))).bind fun t774 => (if t774 = true then (if bt754.2 = 8 then (if bt756.2 = 8 then (some (bt758.2 == 1)) else (none)) else (none)) else (none))) else (none))) else (none))) else (none)) else (none)) else (none)))))))
set_option maxHeartbeats 8000000 in
set_option maxRecDepth 100000 in
theorem pylonlaw28_awake.calls (k : Nat)  (r : Bool) (w : World) (h : pylonlaw28_awake.f k  = some r) :
  Calls Try.prog 30 #[] w fun e w' => e = .returned (.bool r) ∧ Below w.heap.size w w' := by
 have HB := Aside0.mk (Below.refl w.heap.size w)
 have H : ((pylonlaw28_ex.f).bind fun t745 => ((some (([true, true] : List Bool) : List Bool)).bind fun y748 => ((energy_Range.f k t745 y748).bind fun bt751 => ((energy_LeastCost.f k t745 y748 1).bind fun bt754 => ((energy_LeastCost.f k t745 y748 16).bind fun bt756 => ((energy_LeastCost.f k t745 y748 (-1)).bind fun bt758 => (if bt751.1 = 2 then (if bt751.2.1 = 15 then (if bt751.2.2 = 0 then ((pylonlaw28_gives.f k t745 y748 7 9 (([5, 2] : List Int))).bind fun t763 => (if t763 = true then ((pylonlaw28_gives.f k t745 y748 9 14 (([5, 4] : List Int))).bind fun t767 => (if t767 = true then ((pylonlaw28_gives.f k t745 (([false, true] : List Bool)) 4 9 (([0, 4] : List Int))).bind fun t774 => (if t774 = true then (if bt754.2 = 8 then (if bt756.2 = 8 then (some (bt758.2 == 1)) else (none)) else (none)) else (none))) else (none))) else (none))) else (none)) else (none)) else (none)))))))) = some r := h
 clear h
 replace H := Option.bind_eq_some_iff.mp H
 obtain ⟨t745, A10, H⟩ := H
 replace H : ((some (([true, true] : List Bool) : List Bool)).bind fun y748 => ((energy_Range.f k t745 y748).bind fun bt751 => ((energy_LeastCost.f k t745 y748 1).bind fun bt754 => ((energy_LeastCost.f k t745 y748 16).bind fun bt756 => ((energy_LeastCost.f k t745 y748 (-1)).bind fun bt758 => (if bt751.1 = 2 then (if bt751.2.1 = 15 then (if bt751.2.2 = 0 then ((pylonlaw28_gives.f k t745 y748 7 9 (([5, 2] : List Int))).bind fun t763 => (if t763 = true then ((pylonlaw28_gives.f k t745 y748 9 14 (([5, 4] : List Int))).bind fun t767 => (if t767 = true then ((pylonlaw28_gives.f k t745 (([false, true] : List Bool)) 4 9 (([0, 4] : List Int))).bind fun t774 => (if t774 = true then (if bt754.2 = 8 then (if bt756.2 = 8 then (some (bt758.2 == 1)) else (none)) else (none)) else (none))) else (none))) else (none))) else (none)) else (none)) else (none))))))) = some r := H
 have A1 := Aside0.mk A10
 clear A10
 obtain ⟨y748, hy748⟩ : ∃ y_ : List Bool, y_ = (([true, true] : List Bool)) := ⟨_, rfl⟩
 replace H : ((energy_Range.f k t745 y748).bind fun bt751 => ((energy_LeastCost.f k t745 y748 1).bind fun bt754 => ((energy_LeastCost.f k t745 y748 16).bind fun bt756 => ((energy_LeastCost.f k t745 y748 (-1)).bind fun bt758 => (if bt751.1 = 2 then (if bt751.2.1 = 15 then (if bt751.2.2 = 0 then ((pylonlaw28_gives.f k t745 y748 7 9 (([5, 2] : List Int))).bind fun t763 => (if t763 = true then ((pylonlaw28_gives.f k t745 y748 9 14 (([5, 4] : List Int))).bind fun t767 => (if t767 = true then ((pylonlaw28_gives.f k t745 (([false, true] : List Bool)) 4 9 (([0, 4] : List Int))).bind fun t774 => (if t774 = true then (if bt754.2 = 8 then (if bt756.2 = 8 then (some (bt758.2 == 1)) else (none)) else (none)) else (none))) else (none))) else (none))) else (none)) else (none)) else (none)))))) = some r := by first | (rw [hy748]; with_reducible exact H) | (have H2_ := (Option.bind_some _ _).symm.trans H; rw [hy748]; with_reducible exact H2_) | (have H2_ := (Option.bind_some _ _).symm.trans H; with_reducible exact H2_) | with_reducible exact H | (rw [hy748]; exact H) | exact H
 have Ny748 := Aside0.mk hy748
 clear hy748
 replace H := Option.bind_eq_some_iff.mp H
 obtain ⟨⟨t751, t752, t753⟩, A20, H⟩ := H
 replace H : ((energy_LeastCost.f k t745 y748 1).bind fun bt754 => ((energy_LeastCost.f k t745 y748 16).bind fun bt756 => ((energy_LeastCost.f k t745 y748 (-1)).bind fun bt758 => (if t751 = 2 then (if t752 = 15 then (if t753 = 0 then ((pylonlaw28_gives.f k t745 y748 7 9 (([5, 2] : List Int))).bind fun t763 => (if t763 = true then ((pylonlaw28_gives.f k t745 y748 9 14 (([5, 4] : List Int))).bind fun t767 => (if t767 = true then ((pylonlaw28_gives.f k t745 (([false, true] : List Bool)) 4 9 (([0, 4] : List Int))).bind fun t774 => (if t774 = true then (if bt754.2 = 8 then (if bt756.2 = 8 then (some (bt758.2 == 1)) else (none)) else (none)) else (none))) else (none))) else (none))) else (none)) else (none)) else (none))))) = some r := H
 have A2 := Aside0.mk A20
 clear A20
 replace H := Option.bind_eq_some_iff.mp H
 obtain ⟨⟨t754, t755⟩, A30, H⟩ := H
 replace H : ((energy_LeastCost.f k t745 y748 16).bind fun bt756 => ((energy_LeastCost.f k t745 y748 (-1)).bind fun bt758 => (if t751 = 2 then (if t752 = 15 then (if t753 = 0 then ((pylonlaw28_gives.f k t745 y748 7 9 (([5, 2] : List Int))).bind fun t763 => (if t763 = true then ((pylonlaw28_gives.f k t745 y748 9 14 (([5, 4] : List Int))).bind fun t767 => (if t767 = true then ((pylonlaw28_gives.f k t745 (([false, true] : List Bool)) 4 9 (([0, 4] : List Int))).bind fun t774 => (if t774 = true then (if t755 = 8 then (if bt756.2 = 8 then (some (bt758.2 == 1)) else (none)) else (none)) else (none))) else (none))) else (none))) else (none)) else (none)) else (none)))) = some r := H
 have A3 := Aside0.mk A30
 clear A30
 replace H := Option.bind_eq_some_iff.mp H
 obtain ⟨⟨t756, t757⟩, A40, H⟩ := H
 replace H : ((energy_LeastCost.f k t745 y748 (-1)).bind fun bt758 => (if t751 = 2 then (if t752 = 15 then (if t753 = 0 then ((pylonlaw28_gives.f k t745 y748 7 9 (([5, 2] : List Int))).bind fun t763 => (if t763 = true then ((pylonlaw28_gives.f k t745 y748 9 14 (([5, 4] : List Int))).bind fun t767 => (if t767 = true then ((pylonlaw28_gives.f k t745 (([false, true] : List Bool)) 4 9 (([0, 4] : List Int))).bind fun t774 => (if t774 = true then (if t755 = 8 then (if t757 = 8 then (some (bt758.2 == 1)) else (none)) else (none)) else (none))) else (none))) else (none))) else (none)) else (none)) else (none))) = some r := H
 have A4 := Aside0.mk A40
 clear A40
 replace H := Option.bind_eq_some_iff.mp H
 obtain ⟨⟨t758, t759⟩, A50, H⟩ := H
 replace H : (if t751 = 2 then (if t752 = 15 then (if t753 = 0 then ((pylonlaw28_gives.f k t745 y748 7 9 (([5, 2] : List Int))).bind fun t763 => (if t763 = true then ((pylonlaw28_gives.f k t745 y748 9 14 (([5, 4] : List Int))).bind fun t767 => (if t767 = true then ((pylonlaw28_gives.f k t745 (([false, true] : List Bool)) 4 9 (([0, 4] : List Int))).bind fun t774 => (if t774 = true then (if t755 = 8 then (if t757 = 8 then (some (t759 == 1)) else (none)) else (none)) else (none))) else (none))) else (none))) else (none)) else (none)) else (none)) = some r := H
 have A5 := Aside0.mk A50
 clear A50
 by_cases c6 : t751 = 2
 ·rw [if_pos c6] at H
  have c6b0 : (t751 == 2) = true := beq_iff_eq.mpr c6
  clear c6
  by_cases c7 : t752 = 15
  ·rw [if_pos c7] at H
   have c7b0 : (t752 == 15) = true := beq_iff_eq.mpr c7
   clear c7
   by_cases c8 : t753 = 0
   ·rw [if_pos c8] at H
    have c8b0 : (t753 == 0) = true := beq_iff_eq.mpr c8
    clear c8
    obtain ⟨y760, hy760⟩ : ∃ y_ : List Int, y_ = (([5, 2] : List Int)) := ⟨_, rfl⟩
    replace H : ((pylonlaw28_gives.f k t745 y748 7 9 y760).bind fun t763 => (if t763 = true then ((pylonlaw28_gives.f k t745 y748 9 14 (([5, 4] : List Int))).bind fun t767 => (if t767 = true then ((pylonlaw28_gives.f k t745 (([false, true] : List Bool)) 4 9 (([0, 4] : List Int))).bind fun t774 => (if t774 = true then (if t755 = 8 then (if t757 = 8 then (some (t759 == 1)) else (none)) else (none)) else (none))) else (none))) else (none))) = some r := by first | (rw [hy760]; with_reducible exact H) | (have H2_ := (Option.bind_some _ _).symm.trans H; rw [hy760]; with_reducible exact H2_) | (have H2_ := (Option.bind_some _ _).symm.trans H; with_reducible exact H2_) | with_reducible exact H | (rw [hy760]; exact H) | exact H
    have Ny760 := Aside0.mk hy760
    clear hy760
    replace H := Option.bind_eq_some_iff.mp H
    obtain ⟨t763, A90, H⟩ := H
    replace H : (if t763 = true then ((pylonlaw28_gives.f k t745 y748 9 14 (([5, 4] : List Int))).bind fun t767 => (if t767 = true then ((pylonlaw28_gives.f k t745 (([false, true] : List Bool)) 4 9 (([0, 4] : List Int))).bind fun t774 => (if t774 = true then (if t755 = 8 then (if t757 = 8 then (some (t759 == 1)) else (none)) else (none)) else (none))) else (none))) else (none)) = some r := H
    have A9 := Aside0.mk A90
    clear A90
    by_cases c10 : t763 = true
    ·subst c10
     have H1 : ((pylonlaw28_gives.f k t745 y748 9 14 (([5, 4] : List Int))).bind fun t767 => (if t767 = true then ((pylonlaw28_gives.f k t745 (([false, true] : List Bool)) 4 9 (([0, 4] : List Int))).bind fun t774 => (if t774 = true then (if t755 = 8 then (if t757 = 8 then (some (t759 == 1)) else (none)) else (none)) else (none))) else (none))) = some r := by rw [if_pos rfl] at H; exact H
     clear H
     have H := H1
     clear H1
     obtain ⟨y764, hy764⟩ : ∃ y_ : List Int, y_ = (([5, 4] : List Int)) := ⟨_, rfl⟩
     replace H : ((pylonlaw28_gives.f k t745 y748 9 14 y764).bind fun t767 => (if t767 = true then ((pylonlaw28_gives.f k t745 (([false, true] : List Bool)) 4 9 (([0, 4] : List Int))).bind fun t774 => (if t774 = true then (if t755 = 8 then (if t757 = 8 then (some (t759 == 1)) else (none)) else (none)) else (none))) else (none))) = some r := by first | (rw [hy764]; with_reducible exact H) | (have H2_ := (Option.bind_some _ _).symm.trans H; rw [hy764]; with_reducible exact H2_) | (have H2_ := (Option.bind_some _ _).symm.trans H; with_reducible exact H2_) | with_reducible exact H | (rw [hy764]; exact H) | exact H
     have Ny764 := Aside0.mk hy764
     clear hy764
     replace H := Option.bind_eq_some_iff.mp H
     obtain ⟨t767, A110, H⟩ := H
     replace H : (if t767 = true then ((pylonlaw28_gives.f k t745 (([false, true] : List Bool)) 4 9 (([0, 4] : List Int))).bind fun t774 => (if t774 = true then (if t755 = 8 then (if t757 = 8 then (some (t759 == 1)) else (none)) else (none)) else (none))) else (none)) = some r := H
     have A11 := Aside0.mk A110
     clear A110
     by_cases c12 : t767 = true
     ·subst c12
      have H1 : ((pylonlaw28_gives.f k t745 (([false, true] : List Bool)) 4 9 (([0, 4] : List Int))).bind fun t774 => (if t774 = true then (if t755 = 8 then (if t757 = 8 then (some (t759 == 1)) else (none)) else (none)) else (none))) = some r := by rw [if_pos rfl] at H; exact H
      clear H
      have H := H1
      clear H1
      obtain ⟨y768, hy768⟩ : ∃ y_ : List Bool, y_ = (([false, true] : List Bool)) := ⟨_, rfl⟩
      replace H : ((pylonlaw28_gives.f k t745 y768 4 9 (([0, 4] : List Int))).bind fun t774 => (if t774 = true then (if t755 = 8 then (if t757 = 8 then (some (t759 == 1)) else (none)) else (none)) else (none))) = some r := by first | (rw [hy768]; with_reducible exact H) | (have H2_ := (Option.bind_some _ _).symm.trans H; rw [hy768]; with_reducible exact H2_) | (have H2_ := (Option.bind_some _ _).symm.trans H; with_reducible exact H2_) | with_reducible exact H | (rw [hy768]; exact H) | exact H
      have Ny768 := Aside0.mk hy768
      clear hy768
      obtain ⟨y771, hy771⟩ : ∃ y_ : List Int, y_ = (([0, 4] : List Int)) := ⟨_, rfl⟩
      replace H : ((pylonlaw28_gives.f k t745 y768 4 9 y771).bind fun t774 => (if t774 = true then (if t755 = 8 then (if t757 = 8 then (some (t759 == 1)) else (none)) else (none)) else (none))) = some r := by first | (rw [hy771]; with_reducible exact H) | (have H2_ := (Option.bind_some _ _).symm.trans H; rw [hy771]; with_reducible exact H2_) | (have H2_ := (Option.bind_some _ _).symm.trans H; with_reducible exact H2_) | with_reducible exact H | (rw [hy771]; exact H) | exact H
      have Ny771 := Aside0.mk hy771
      clear hy771
      replace H := Option.bind_eq_some_iff.mp H
      obtain ⟨t774, A130, H⟩ := H
      replace H : (if t774 = true then (if t755 = 8 then (if t757 = 8 then (some (t759 == 1)) else (none)) else (none)) else (none)) = some r := H
      have A13 := Aside0.mk A130
      clear A130
      by_cases c14 : t774 = true
      ·subst c14
       have H1 : (if t755 = 8 then (if t757 = 8 then (some (t759 == 1)) else (none)) else (none)) = some r := by rw [if_pos rfl] at H; exact H
       clear H
       have H := H1
       clear H1
       by_cases c15 : t755 = 8
       ·rw [if_pos c15] at H
        have c15b0 : (t755 == 8) = true := beq_iff_eq.mpr c15
        clear c15
        by_cases c16 : t757 = 8
        ·rw [if_pos c16] at H
         have c16b0 : (t757 == 8) = true := beq_iff_eq.mpr c16
         clear c16
         obtain rfl := Option.some.inj H
         go_enter Try.func30, Try.ntmps30
         go_wp2_with (first | ((with_reducible refine gate_callee (f := 51) rfl ?_); refine goesL_ (some 12) rfl rfl Try.func51 m_13 rfl #[] rfl m_2 ?_; (with_reducible refine (pylonlaw28_ex.calls  t745 _ A1.out).mono ?_); rintro e w17 ⟨v746, rfl, ho0, hb⟩; refine ⟨_, rfl, ?_⟩; have HO747 := Aside0.mk (Kd.V_lower (Kd.V_mono (ok' := fun k_ => True) ho0 (fun k_ hk_ => trivial)) (below_size m_1)); replace HB := Aside0.mk (below_step m_1 hb); clear hb; (try clear ho0)) | ((with_reducible refine gate_dst (N := 13) rfl ?_); (try (refine gate_guard (by rfl) ?_; dsimp only)); refine Kd.R_lit Kd.bool _ 4 ?hg (N := 13) ?hd (xs := ([true, true] : List Bool)) (inner := [.bool true, .bool true]) (ok := fun _ => True) (okp := fun _ => True) ?hr ?hp (fun _ hk => hk) trivial (Below.refl _ _) (Nat.le_refl _) (by simp) ?_; (case hd => rfl); (case hg => rfl); (case hr => exact hr_); (case hp => exact (Reps.one (show Kd.M Kd.bool _ _ _ true [.bool true] from rfl) (Reps.one (show Kd.M Kd.bool _ _ _ true [.bool true] from rfl) (Reps.none _ _)))); intro v749 w18 ho19 hb hg_ hnew_; clear hg_ hnew_; (first | rw [← Ny748.out] at ho19 | (simp only [Int.reduceToNat] at ho19; rw [← Ny748.out] at ho19)); have HO750 := Aside0.mk (Kd.R_lower ho19 (below_size m_1)); replace HO747 := Aside0.mk (Kd.V_elder' (vA_ HO747.out) (Kd.R_base ho19) hb); replace HB := Aside0.mk (below_step m_1 hb); clear hb ho19; obtain ⟨Ao20, co20, eo20⟩ := Kd.V_slice HO747.out; subst eo20; obtain ⟨Ao21, co21, eo21⟩ := Kd.R_slice HO750.out; subst eo21) | ((with_reducible refine gate_callee (f := 52) rfl ?_); refine goesL_ (some 17) rfl rfl Try.func52 m_13 rfl #[.slice Ao20 t745.length co20, .slice Ao21 y748.length co21] rfl m_2 ?_; (with_reducible refine (energy_Range.calls k _ _ t745 _ _ y748 t751 t752 t753 _ ?side1 ?side2 ?side3 ?side4 A2.out).mono ?_); (case side1 => exact cA_ (Kd.V_reads' HO747.out).2.2); (case side2 => exact (Kd.V_reads' HO747.out).2.1); (case side3 => exact cA_ (Kd.R_reads' HO750.out).2.2); (case side4 => exact (Kd.R_reads' HO750.out).2.1); rintro e w22 ⟨rfl, hb⟩; refine ⟨_, rfl, ?_⟩; replace HO747 := vB_ HO747 hb; replace HO750 := rB_ HO750 hb; replace HB := Aside0.mk (below_step m_1 hb); clear hb) | ((with_reducible refine gate_callee (f := 33) rfl ?_); refine goesL_ (some 24) rfl rfl Try.func33 m_13 rfl #[.slice Ao20 t745.length co20, .slice Ao21 y748.length co21, .int .i64 1] rfl m_2 ?_; (with_reducible refine (energy_LeastCost.calls k _ _ t745 _ _ y748 1 t754 t755 _ ?side1 ?side2 ?side3 ?side4 A3.out).mono ?_); (case side1 => exact cA_ (Kd.V_reads' HO747.out).2.2); (case side2 => exact (Kd.V_reads' HO747.out).2.1); (case side3 => exact cA_ (Kd.R_reads' HO750.out).2.2); (case side4 => exact (Kd.R_reads' HO750.out).2.1); rintro e w23 ⟨rfl, hb⟩; refine ⟨_, rfl, ?_⟩; replace HO747 := vB_ HO747 hb; replace HO750 := rB_ HO750 hb; replace HB := Aside0.mk (below_step m_1 hb); clear hb) | ((with_reducible refine gate_callee (f := 33) rfl ?_); refine goesL_ (some 30) rfl rfl Try.func33 m_13 rfl #[.slice Ao20 t745.length co20, .slice Ao21 y748.length co21, .int .i64 16] rfl m_2 ?_; (with_reducible refine (energy_LeastCost.calls k _ _ t745 _ _ y748 16 t756 t757 _ ?side1 ?side2 ?side3 ?side4 A4.out).mono ?_); (case side1 => exact cA_ (Kd.V_reads' HO747.out).2.2); (case side2 => exact (Kd.V_reads' HO747.out).2.1); (case side3 => exact cA_ (Kd.R_reads' HO750.out).2.2); (case side4 => exact (Kd.R_reads' HO750.out).2.1); rintro e w24 ⟨rfl, hb⟩; refine ⟨_, rfl, ?_⟩; replace HO747 := vB_ HO747 hb; replace HO750 := rB_ HO750 hb; replace HB := Aside0.mk (below_step m_1 hb); clear hb) | ((with_reducible refine gate_callee (f := 33) rfl ?_); refine goesL_ (some 36) rfl rfl Try.func33 m_13 rfl #[.slice Ao20 t745.length co20, .slice Ao21 y748.length co21, .int .i64 (-1)] rfl m_2 ?_; (with_reducible refine (energy_LeastCost.calls k _ _ t745 _ _ y748 (-1) t758 t759 _ ?side1 ?side2 ?side3 ?side4 A5.out).mono ?_); (case side1 => exact cA_ (Kd.V_reads' HO747.out).2.2); (case side2 => exact (Kd.V_reads' HO747.out).2.1); (case side3 => exact cA_ (Kd.R_reads' HO750.out).2.2); (case side4 => exact (Kd.R_reads' HO750.out).2.1); rintro e w25 ⟨rfl, hb⟩; refine ⟨_, rfl, ?_⟩; replace HO747 := vB_ HO747 hb; replace HO750 := rB_ HO750 hb; replace HB := Aside0.mk (below_step m_1 hb); clear hb) | ((with_reducible refine gate_dst (N := 52) rfl ?_); (try (refine gate_guard (by rfl) ?_; dsimp only)); refine Kd.R_lit (Kd.int .i64) _ 2 ?hg (N := 52) ?hd (xs := ([5, 2] : List Int)) (inner := [.int .i64 5, .int .i64 2]) (ok := fun _ => True) (okp := fun _ => True) ?hr ?hp (fun _ hk => hk) trivial (Below.refl _ _) (Nat.le_refl _) (by simp) ?_; (case hd => rfl); (case hg => rfl); (case hr => exact hr_); (case hp => exact (Reps.one (show Kd.M (Kd.int .i64) _ _ _ 5 [.int .i64 5] from rfl) (Reps.one (show Kd.M (Kd.int .i64) _ _ _ 2 [.int .i64 2] from rfl) (Reps.none _ _)))); intro v761 w26 ho27 hb hg_ hnew_; clear hg_ hnew_; (first | rw [← Ny760.out] at ho27 | (simp only [Int.reduceToNat] at ho27; rw [← Ny760.out] at ho27)); have HO762 := Aside0.mk (Kd.R_lower ho27 (below_size m_1)); replace HO747 := Aside0.mk (Kd.V_elder' (vA_ HO747.out) (Kd.R_base ho27) hb); replace HO750 := rB_ HO750 hb; replace HB := Aside0.mk (below_step m_1 hb); clear hb ho27; obtain ⟨Ao28, co28, eo28⟩ := Kd.R_slice HO762.out; subst eo28) | (go_at_call 53; (with_reducible refine (pylonlaw28_gives.calls k _ _ t745 _ _ y748 7 9 _ _ y760 true _ ?side1 ?side2 ?side3 ?side4 ?side5 ?side6 A9.out).mono ?_); (case side1 => exact cA_ (Kd.V_reads' HO747.out).2.2); (case side2 => exact (Kd.V_reads' HO747.out).2.1); (case side3 => exact cA_ (Kd.R_reads' HO750.out).2.2); (case side4 => exact (Kd.R_reads' HO750.out).2.1); (case side5 => exact cA_ (Kd.R_reads' HO762.out).2.2); (case side6 => exact (Kd.R_reads' HO762.out).2.1); rintro e w29 ⟨rfl, hb⟩; replace HO747 := vB_ HO747 hb; replace HO750 := rB_ HO750 hb; replace HO762 := rB_ HO762 hb; replace HB := Aside0.mk (below_step m_1 hb); clear hb; (try clear hk)) | ((with_reducible refine gate_dst (N := 58) rfl ?_); (try (refine gate_guard (by rfl) ?_; dsimp only)); refine Kd.R_lit (Kd.int .i64) _ 2 ?hg (N := 58) ?hd (xs := ([5, 4] : List Int)) (inner := [.int .i64 5, .int .i64 4]) (ok := fun _ => True) (okp := fun _ => True) ?hr ?hp (fun _ hk => hk) trivial (Below.refl _ _) (Nat.le_refl _) (by simp) ?_; (case hd => rfl); (case hg => rfl); (case hr => exact hr_); (case hp => exact (Reps.one (show Kd.M (Kd.int .i64) _ _ _ 5 [.int .i64 5] from rfl) (Reps.one (show Kd.M (Kd.int .i64) _ _ _ 4 [.int .i64 4] from rfl) (Reps.none _ _)))); intro v765 w30 ho31 hb hg_ hnew_; clear hg_ hnew_; (first | rw [← Ny764.out] at ho31 | (simp only [Int.reduceToNat] at ho31; rw [← Ny764.out] at ho31)); have HO766 := Aside0.mk (Kd.R_lower (Kd.R_new' ho31 (Kd.R_lt (rA_ HO762.out))) (below_size m_1)); replace HO747 := Aside0.mk (Kd.V_elder' (vA_ HO747.out) (Kd.R_base ho31) hb); replace HO750 := rB_ HO750 hb; replace HO762 := Aside0.mk (Kd.R_elder' (rA_ HO762.out) (Kd.R_base ho31) hb); replace HB := Aside0.mk (below_step m_1 hb); clear hb ho31; obtain ⟨Ao32, co32, eo32⟩ := Kd.R_slice HO766.out; subst eo32) | (go_at_call 53; (with_reducible refine (pylonlaw28_gives.calls k _ _ t745 _ _ y748 9 14 _ _ y764 true _ ?side1 ?side2 ?side3 ?side4 ?side5 ?side6 A11.out).mono ?_); (case side1 => exact cA_ (Kd.V_reads' HO747.out).2.2); (case side2 => exact (Kd.V_reads' HO747.out).2.1); (case side3 => exact cA_ (Kd.R_reads' HO750.out).2.2); (case side4 => exact (Kd.R_reads' HO750.out).2.1); (case side5 => exact cA_ (Kd.R_reads' HO766.out).2.2); (case side6 => exact (Kd.R_reads' HO766.out).2.1); rintro e w33 ⟨rfl, hb⟩; replace HO747 := vB_ HO747 hb; replace HO750 := rB_ HO750 hb; replace HO762 := rB_ HO762 hb; replace HO766 := rB_ HO766 hb; replace HB := Aside0.mk (below_step m_1 hb); clear hb; (try clear hk)) | ((with_reducible refine gate_dst (N := 63) rfl ?_); (try (refine gate_guard (by rfl) ?_; dsimp only)); refine Kd.R_lit Kd.bool _ 4 ?hg (N := 63) ?hd (xs := ([false, true] : List Bool)) (inner := [.bool false, .bool true]) (ok := fun _ => True) (okp := fun _ => True) ?hr ?hp (fun _ hk => hk) trivial (Below.refl _ _) (Nat.le_refl _) (by simp) ?_; (case hd => rfl); (case hg => rfl); (case hr => exact hr_); (case hp => exact (Reps.one (show Kd.M Kd.bool _ _ _ false [.bool false] from rfl) (Reps.one (show Kd.M Kd.bool _ _ _ true [.bool true] from rfl) (Reps.none _ _)))); intro v769 w34 ho35 hb hg_ hnew_; clear hg_ hnew_; (first | rw [← Ny768.out] at ho35 | (simp only [Int.reduceToNat] at ho35; rw [← Ny768.out] at ho35)); have HO770 := Aside0.mk (Kd.R_lower (Kd.R_new' ho35 (Kd.R_lt (rA_ HO750.out))) (below_size m_1)); replace HO747 := Aside0.mk (Kd.V_elder' (vA_ HO747.out) (Kd.R_base ho35) hb); replace HO750 := Aside0.mk (Kd.R_elder' (rA_ HO750.out) (Kd.R_base ho35) hb); replace HO762 := rB_ HO762 hb; replace HO766 := rB_ HO766 hb; replace HB := Aside0.mk (below_step m_1 hb); clear hb ho35) | ((with_reducible refine gate_dst (N := 64) rfl ?_); (try (refine gate_guard (by rfl) ?_; dsimp only)); refine Kd.R_lit (Kd.int .i64) _ 2 ?hg (N := 64) ?hd (xs := ([0, 4] : List Int)) (inner := [.int .i64 0, .int .i64 4]) (ok := fun _ => True) (okp := fun _ => True) ?hr ?hp (fun _ hk => hk) trivial (Below.refl _ _) (Nat.le_refl _) (by simp) ?_; (case hd => rfl); (case hg => rfl); (case hr => exact hr_); (case hp => exact (Reps.one (show Kd.M (Kd.int .i64) _ _ _ 0 [.int .i64 0] from rfl) (Reps.one (show Kd.M (Kd.int .i64) _ _ _ 4 [.int .i64 4] from rfl) (Reps.none _ _)))); intro v772 w36 ho37 hb hg_ hnew_; clear hg_ hnew_; (first | rw [← Ny771.out] at ho37 | (simp only [Int.reduceToNat] at ho37; rw [← Ny771.out] at ho37)); have HO773 := Aside0.mk (Kd.R_lower (Kd.R_new' (Kd.R_new' ho37 (Kd.R_lt (rA_ HO762.out))) (Kd.R_lt (rA_ HO766.out))) (below_size m_1)); replace HO747 := Aside0.mk (Kd.V_elder' (vA_ HO747.out) (Kd.R_base ho37) hb); replace HO750 := rB_ HO750 hb; replace HO762 := Aside0.mk (Kd.R_elder' (rA_ HO762.out) (Kd.R_base ho37) hb); replace HO766 := Aside0.mk (Kd.R_elder' (rA_ HO766.out) (Kd.R_base ho37) hb); replace HO770 := rB_ HO770 hb; replace HB := Aside0.mk (below_step m_1 hb); clear hb ho37; obtain ⟨Ao38, co38, eo38⟩ := Kd.R_slice HO770.out; subst eo38; obtain ⟨Ao39, co39, eo39⟩ := Kd.R_slice HO773.out; subst eo39) | (go_at_call 53; (with_reducible refine (pylonlaw28_gives.calls k _ _ t745 _ _ y768 4 9 _ _ y771 true _ ?side1 ?side2 ?side3 ?side4 ?side5 ?side6 A13.out).mono ?_); (case side1 => exact cA_ (Kd.V_reads' HO747.out).2.2); (case side2 => exact (Kd.V_reads' HO747.out).2.1); (case side3 => exact cA_ (Kd.R_reads' HO770.out).2.2); (case side4 => exact (Kd.R_reads' HO770.out).2.1); (case side5 => exact cA_ (Kd.R_reads' HO773.out).2.2); (case side6 => exact (Kd.R_reads' HO773.out).2.1); rintro e w40 ⟨rfl, hb⟩; replace HB := Aside0.mk (below_step m_1 hb); clear hb; (try clear hk)))
         go_ret
         exact ⟨m_5, m_1⟩
        ·rw [if_neg c16] at H
         cases H
       ·rw [if_neg c15] at H
        cases H
      ·rw [if_neg c14] at H
       cases H
     ·rw [if_neg c12] at H
      cases H
    ·rw [if_neg c10] at H
     cases H
   ·rw [if_neg c8] at H
    cases H
  ·rw [if_neg c7] at H
   cases H
 ·rw [if_neg c6] at H
  cases H
theorem ck1 : ckF exU [true, true] = 0 := by simp [ckF, chk, ckU, checkF, exU, wrongF, wrongFrom, cutB, afterB, inB, maxF, qsum, wrap64]
theorem ck2 : ckF exU [false, true] = 0 := by simp [ckF, chk, ckU, checkF, exU, wrongF, wrongFrom, cutB, afterB, inB, maxF, qsum, wrap64]
theorem pc1 : piecesOf 0 exU [true, true] = [(0, 3, 1), (0, 4, 3), (1, 3, 2), (1, 3, 3)] := by decide
theorem pc2 : piecesOf 0 exU [false, true] = [(1, 3, 2), (1, 3, 3)] := by decide
theorem ex_good : ∀ u ∈ exU, goodU u = true := by decide
theorem sr1 : srtP (piecesOf 0 exU [true, true]) = [(0, 3, 1), (1, 3, 2), (1, 3, 3), (0, 4, 3)] := by
  refine (srt_unique (pieces_pre 0 exU [true, true] ex_good) (rs := [(0, 3, 1), (1, 3, 2), (1, 3, 3), (0, 4, 3)]) ?_ (by decide)).symm
  rw [pc1]
  decide
theorem sr2 : srtP (piecesOf 0 exU [false, true]) = [(1, 3, 2), (1, 3, 3)] := by
  refine (srt_unique (pieces_pre 0 exU [false, true] ex_good) (rs := [(1, 3, 2), (1, 3, 3)]) ?_ (by decide)).symm
  rw [pc2]
theorem al7 : allocR exU [true, true] 7 = ([5, 2], 0) := by
  unfold allocR allocRow
  rw [if_pos ck1, sr1]
  decide
theorem al9 : allocR exU [true, true] 9 = ([5, 4], 0) := by
  unfold allocR allocRow
  rw [if_pos ck1, sr1]
  decide
theorem al4 : allocR exU [false, true] 4 = ([0, 4], 0) := by
  unfold allocR allocRow
  rw [if_pos ck2, sr2]
  decide
theorem al1 : allocR exU [true, true] 1 = ([], 8) := by
  unfold allocR
  rw [if_pos ck1]
  decide
theorem al16 : allocR exU [true, true] 16 = ([], 8) := by
  unfold allocR
  rw [if_pos ck1]
  decide
theorem alm : allocR exU [true, true] (-1) = ([], 1) := by
  unfold allocR
  rw [if_pos ck1]
  decide
theorem le_of (l1 : List Bool) (d : Int) (r : List Int) (c : Int) (h : allocR exU l1 d = (r, 0)) (hc : costR exU l1 r = (c, 0)) : leastR exU l1 d = (c, 0) := by
  unfold leastR
  rw [h, if_pos rfl, hc]
theorem same2 (a b : Int) : Evs (fun k => pylonref28_Same.f k [a, b] [a, b]) true := by
  refine ⟨3, fun k hk => ?_⟩
  obtain ⟨m, rfl⟩ : ∃ m, k = m + 3 := ⟨k - 3, by omega⟩
  simp [pylonref28_Same.f, pylonref28_Same.l0, YtelklgdmhnkenaaW.PrintWords.rd, wrap64]
theorem gives_f (l1 : List Bool) (d c a b : Int) (h : allocR exU l1 d = ([a, b], 0)) (hc : costR exU l1 [a, b] = (c, 0)) : Evs (fun k => pylonlaw28_gives.f k exU l1 d c [a, b]) true := by
  unfold pylonlaw28_gives.f
  have h1 := alloc_f exU l1 d
  have h2 := least_f exU l1 d
  have h3 := Cost_f exU l1 [a, b]
  rw [h] at h1
  rw [le_of l1 d _ c h hc] at h2
  rw [hc] at h3
  refine h1.bind (h2.bind (h3.bind ?_))
  simp only [if_true]
  exact (same2 a b).bind (Evs.const rfl)
theorem awake_f : Evs (fun k => pylonlaw28_awake.f k) true := by
  unfold pylonlaw28_awake.f pylonlaw28_ex.f
  simp only [Option.bind_some]
  have hr := Range_f exU [true, true]
  have e : rangeR exU [true, true] = (2, 15, 0) := by unfold rangeR; rw [if_pos ck1]; decide
  rw [e] at hr
  have l1 := least_f exU [true, true] 1
  have l2 := least_f exU [true, true] 16
  have l3 := least_f exU [true, true] (-1)
  have e1 : leastR exU [true, true] 1 = (0, 8) := by unfold leastR; rw [al1]; rfl
  have e2 : leastR exU [true, true] 16 = (0, 8) := by unfold leastR; rw [al16]; rfl
  have e3 : leastR exU [true, true] (-1) = (0, 1) := by unfold leastR; rw [alm]; rfl
  rw [e1] at l1
  rw [e2] at l2
  rw [e3] at l3
  refine hr.bind (l1.bind (l2.bind (l3.bind ?_)))
  simp only [if_true]
  refine (gives_f [true, true] 7 9 5 2 al7 (by unfold costR; rw [if_pos ck1]; decide)).bind ?_
  simp only [if_true]
  refine (gives_f [true, true] 9 14 5 4 al9 (by unfold costR; rw [if_pos ck1]; decide)).bind ?_
  simp only [if_true]
  refine (gives_f [false, true] 4 9 0 4 al4 (by unfold costR; rw [if_pos ck2]; decide)).bind ?_
  simp only [if_true]
  exact Evs.const rfl
end Go.Proofs.Ytelklgdmhnkenaa.U
namespace Go.Proofs.Ytelklgdmhnkenaa.U
attribute [local go_sem] max2_int min2_int max_two min_two max_three min_three max_four min_four
mutual
def pylonlaw28_Long.j0 : Nat → List (S24) → Bool → Option (Bool)
 | 0, _, _ => none
 | k + 1, x0, x13 => if x13 = true then (some true) else (pylonlaw28_Long.l0 k x0 0)
def pylonlaw28_Long.l0 : Nat → List (S24) → Int → Option (Bool)
 | 0, _, _ => none
 | k + 1, x0, x5 => if x5 < (x0.length : Int) then (if 0 ≤ x5 then (if (((rd_T24 x0 x5).f2).length : Int) > 20 then (some true) else (pylonlaw28_Long.l0 k x0 (wrap64 (x5 + 1)))) else (none)) else (some false)
end
def pylonlaw28_Long.f (k : Nat) (l0 : List (S24)) (l1 : List Bool) : Option (Bool) := if (l0.length : Int) > 30 then (pylonlaw28_Long.j0 k l0 true) else (pylonlaw28_Long.j0 k l0 (decide ((l1.length : Int) > 30)))
set_option maxHeartbeats 8000000 in
set_option maxRecDepth 100000 in
theorem pylonlaw28_Long.calls (k : Nat) (A0 : Option Addr) (c0 : Nat) (l0 : List (S24)) (A1 : Option Addr) (c1 : Nat) (l1 : List Bool) (r : Bool) (w : World) (hr0 : Kd.C k24 w A0 l0.length l0) (hc0 : l0.length ≤ c0) (hr1 : Kd.C Kd.bool w A1 l1.length l1) (hc1 : l1.length ≤ c1) (h : pylonlaw28_Long.f k l0 l1 = some r) :
  Calls Try.prog 29 #[.slice A0 l0.length c0, .slice A1 l1.length c1] w fun e w' => e = .returned (.bool r) ∧ Drawn0 w w' := by
 have HR0 := Aside0.mk hr0
 clear hr0 hc0
 clear hr1 hc1
 have H : (if (l0.length : Int) > 30 then (pylonlaw28_Long.j0 k l0 true) else (pylonlaw28_Long.j0 k l0 (decide ((l1.length : Int) > 30)))) = some r := h
 clear h
 have HC3 := Aside0.mk H
 clear H
 go_enter Try.func29, Try.ntmps29
 go_upto_region 1 with (fail)
 go_cut [13] (fun v13 wc => ∃ (kq : Nat) (x13_2 : Bool), v13 = .bool x13_2 ∧ Aside0 (pylonlaw28_Long.j0 kq l0 x13_2 = some r) ∧ Aside0 (kq ≤ k) ∧ Drawn0 w wc)
 case first =>
  have H := HC3.out
  clear HC3
  by_cases c4 : (l0.length : Int) > 30
  ·rw [if_pos c4] at H
   have c4b0 : decide (30 < (l0.length : Int)) = true := decide_eq_true c4
   have c4b1 : decide (30 < l0.length) = true := decide_eq_true (by omega)
   clear c4
   (first | rw [c4b0] | (simp only [i64_w, i32_w]; rw [c4b0]) | skip)
   have H' := Aside0.mk H
   clear H
   go_wp2
   go_meet
   case rel => exact ⟨_, (true), m_9, H', ⟨m_71⟩, m_28⟩
  ·rw [if_neg c4] at H
   have c4b0 : decide (30 < (l0.length : Int)) = false := decide_eq_false c4
   have c4b1 : decide (30 < l0.length) = false := decide_eq_false (by omega)
   clear c4
   (first | rw [c4b0] | (simp only [i64_w, i32_w]; rw [c4b0]) | skip)
   have H' := Aside0.mk H
   clear H
   go_wp2
   go_meet
   case rel => exact ⟨_, (decide ((l1.length : Int) > 30)), m_9, H', ⟨m_71⟩, m_28⟩
 case rest =>
  clear HC3
  (try clear c1); (try clear c2); (try clear p2); (try clear c4); (try clear c4b0); (try clear c4b1)
  obtain ⟨kq, x13_2, rfl, HA, HJ2, ⟨mc2, rfl⟩⟩ := hcut
  cases kq with
  | zero => exact absurd HA.out (by simp [pylonlaw28_Long.j0])
  | succ kj2 =>
   have H := HA.out
   clear HA
   simp only [pylonlaw28_Long.j0] at H
   by_cases c5 : x13_2 = true
   ·subst c5
    have H1 : (some true) = some r := by rw [if_pos rfl] at H; exact H
    clear H
    have H := H1
    clear H1
    obtain rfl := Option.some.inj H
    go_wp2
    go_ret
    exact ⟨m_9, m_28⟩
   ·replace c5 := Bool.eq_false_iff.mpr c5
    subst c5
    have H1 : (pylonlaw28_Long.l0 kj2 l0 0) = some r := by rw [if_neg (show ¬ (false = true) by decide)] at H; exact H
    clear H
    have H := H1
    clear H1
    have H' := Aside0.mk H
    clear H
    go_wp2
    go_loopg [5] kj2 (fun kq v5 w' => ∃ (x5_2 : Int), v5 = .int .i64 x5_2 ∧ Aside0 (pylonlaw28_Long.l0 kq l0 x5_2 = some r) ∧ Aside0 (kq ≤ kj2) ∧ Drawn0 w w')
    case atStart => exact ⟨(0), m_9, H', ⟨Nat.le_refl _⟩, m_28⟩
    case round =>
     clear H'
     (try clear c1); (try clear c2); (try clear p2); (try clear c4); (try clear c4b0); (try clear c4b1); (try clear c5); (try clear p2)
     obtain ⟨x5_2, rfl, HA, HK2, ⟨m2, rfl⟩⟩ := hrel
     cases gk with
     | zero => exact absurd HA.out (by simp [pylonlaw28_Long.l0])
     | succ k2 =>
      have H := HA.out
      clear HA
      simp only [pylonlaw28_Long.l0] at H
      by_cases c6 : x5_2 < (l0.length : Int)
      ·rw [if_pos c6] at H
       have c6b0 : decide (x5_2 < (l0.length : Int)) = true := decide_eq_true c6
       clear c6
       by_cases c7 : 0 ≤ x5_2
       ·rw [if_pos c7] at H
        have c7b0 : decide (0 ≤ x5_2) = true := decide_eq_true c7
        clear c7
        by_cases c8 : (((rd_T24 l0 x5_2).f2).length : Int) > 20
        ·rw [if_pos c8] at H
         have c8b0 : decide (20 < (((rd_T24 l0 x5_2).f2).length : Int)) = true := decide_eq_true c8
         clear c8
         obtain rfl := Option.some.inj H
         have p341 : 0 ≤ (x5_2 : Int) := of_decide_eq_true m_4
         have q341 : x5_2 < (l0.length : Int) := of_decide_eq_true m_4
         obtain ⟨ad341, A341_2, c341_2, e341, hx341_0, hx341_1, hx341_2, hx341_3, hx341_4, hx341_5, hx341_6, hx341_7, hx341_8, hl341_2, hi341_2⟩ := at_T24 HR0.out x5_2 p341 q341
         cases e341
         clear hi341_2 hl341_2
         replace p341 := eq_true p341
         replace q341 := eq_true q341
         go_wp2
         go_ret
         exact ⟨m_9, m_28⟩
        ·rw [if_neg c8] at H
         have c8b0 : decide (20 < (((rd_T24 l0 x5_2).f2).length : Int)) = false := decide_eq_false c8
         clear c8
         have H' := Aside0.mk H
         clear H
         have p341 : 0 ≤ (x5_2 : Int) := of_decide_eq_true m_4
         have q341 : x5_2 < (l0.length : Int) := of_decide_eq_true m_4
         obtain ⟨ad341, A341_2, c341_2, e341, hx341_0, hx341_1, hx341_2, hx341_3, hx341_4, hx341_5, hx341_6, hx341_7, hx341_8, hl341_2, hi341_2⟩ := at_T24 HR0.out x5_2 p341 q341
         cases e341
         clear hi341_2 hl341_2
         replace p341 := eq_true p341
         replace q341 := eq_true q341
         go_wp2
         go_roundg k2
         case measure => have := HJ2.out; have := HK2.out; omega
         case rel => exact ⟨(wrap64 (x5_2 + 1)), m_9, H', ⟨(by have := HJ2.out; have := HK2.out; omega)⟩, m_28⟩
       ·rw [if_neg c7] at H
        exact absurd H (by simp)
      ·rw [if_neg c6] at H
       have c6b0 : decide (x5_2 < (l0.length : Int)) = false := decide_eq_false c6
       clear c6
       obtain rfl := Option.some.inj H
       go_wp2
       go_ret
       exact ⟨m_9, m_28⟩
end Go.Proofs.Ytelklgdmhnkenaa.U
namespace Go.Proofs.Ytelklgdmhnkenaa.U
attribute [local go_sem] max2_int min2_int max_two min_two max_three min_three max_four min_four
def pylonlaw28_EnergyConvexity.j0 : Nat → List (S24) → List Bool → Int → Bool → Option (Bool)
 | 0, _, _, _, _ => none
 | k + 1, x0, x1, x2, x23 => if x23 = true then ((pylonlaw28_awake.f k).bind fun t810 => (some t810)) else ((energy_LeastCost.f k x0 x1 x2).bind fun bt811 => ((energy_LeastCost.f k x0 x1 (wrap64 (x2 + 1))).bind fun bt813 => ((energy_LeastCost.f k x0 x1 (wrap64 (x2 + 2))).bind fun bt815 => (if bt811.2 = 0 then (if bt813.2 = 0 then (if bt815.2 = 0 then (some (decide ((wrap64 (bt815.1 - bt813.1)) ≥ (wrap64 (bt813.1 - bt811.1))))) else (some true)) else (some true)) else (some true)))))
def pylonlaw28_EnergyConvexity.f (k : Nat) (l0 : List (S24)) (l1 : List Bool) (a2 : Int) : Option (Bool) := (pylonlaw28_Long.f k l0 l1).bind fun t808 => (if t808 = true then (pylonlaw28_EnergyConvexity.j0 k l0 l1 a2 true) else (if a2 > 1099511627776 then (pylonlaw28_EnergyConvexity.j0 k l0 l1 a2 true) else ((pylonlaw28_awake.f k).bind fun t809 => (pylonlaw28_EnergyConvexity.j0 k l0 l1 a2 (!t809)))))
set_option maxHeartbeats 8000000 in
set_option maxRecDepth 100000 in
theorem pylonlaw28_EnergyConvexity.calls (k : Nat) (A0 : Option Addr) (c0 : Nat) (l0 : List (S24)) (A1 : Option Addr) (c1 : Nat) (l1 : List Bool) (a2 : Int) (r : Bool) (w : World) (hr0 : Kd.C k24 w A0 l0.length l0) (hc0 : l0.length ≤ c0) (hr1 : Kd.C Kd.bool w A1 l1.length l1) (hc1 : l1.length ≤ c1) (h : pylonlaw28_EnergyConvexity.f k l0 l1 a2 = some r) :
  Calls Try.prog 12 #[.slice A0 l0.length c0, .slice A1 l1.length c1, .int .i64 a2] w fun e w' => e = .returned (.bool r) ∧ Below w.heap.size w w' := by
 have HR0 := Aside0.mk hr0
 have HC0 := Aside0.mk hc0
 clear hr0 hc0
 have HR1 := Aside0.mk hr1
 have HC1 := Aside0.mk hc1
 clear hr1 hc1
 have HB := Aside0.mk (Below.refl w.heap.size w)
 have H : ((pylonlaw28_Long.f k l0 l1).bind fun t808 => (if t808 = true then (pylonlaw28_EnergyConvexity.j0 k l0 l1 a2 true) else (if a2 > 1099511627776 then (pylonlaw28_EnergyConvexity.j0 k l0 l1 a2 true) else ((pylonlaw28_awake.f k).bind fun t809 => (pylonlaw28_EnergyConvexity.j0 k l0 l1 a2 (!t809)))))) = some r := h
 clear h
 have HC4 := Aside0.mk H
 clear H
 go_enter Try.func12, Try.ntmps12
 go_upto_region 1 with (fail)
 go_cut [23] (fun v23 wc => ∃ (kq : Nat) (x23_3 : Bool), v23 = .bool x23_3 ∧ Aside0 (pylonlaw28_EnergyConvexity.j0 kq l0 l1 a2 x23_3 = some r) ∧ Aside0 (kq ≤ k) ∧ Aside0 (Below w.heap.size w wc))
 case first =>
  have H := HC4.out
  clear HC4
  replace H := Option.bind_eq_some_iff.mp H
  obtain ⟨t808, A50, H⟩ := H
  replace H : (if t808 = true then (pylonlaw28_EnergyConvexity.j0 k l0 l1 a2 true) else (if a2 > 1099511627776 then (pylonlaw28_EnergyConvexity.j0 k l0 l1 a2 true) else ((pylonlaw28_awake.f k).bind fun t809 => (pylonlaw28_EnergyConvexity.j0 k l0 l1 a2 (!t809))))) = some r := H
  have A5 := Aside0.mk A50
  clear A50
  by_cases c6 : t808 = true
  ·subst c6
   have H1 : (pylonlaw28_EnergyConvexity.j0 k l0 l1 a2 true) = some r := by rw [if_pos rfl] at H; exact H
   clear H
   have H := H1
   clear H1
   have H' := Aside0.mk H
   clear H
   go_wp2_with (first | ((with_reducible refine gate_callee (f := 29) rfl ?_); refine goesL_ (some 15) rfl rfl Try.func29 m_13 rfl #[.slice A0 l0.length c0, .slice A1 l1.length c1] rfl m_2 ?_; (with_reducible refine (pylonlaw28_Long.calls k _ _ l0 _ _ l1 true _ ?side1 ?side2 ?side3 ?side4 A5.out).mono ?_); (case side1 => exact cA_ (Kd.C_below HR0.out HB.out)); (case side2 => exact HC0.out); (case side3 => exact cA_ (Kd.C_below HR1.out HB.out)); (case side4 => exact HC1.out); rintro e w' ⟨rfl, ⟨nd, rfl⟩⟩; refine ⟨_, rfl, ?_⟩))
   go_meet
   case rel => exact ⟨_, (true), m_9, H', ⟨m_71⟩, ⟨m_1⟩⟩
  ·replace c6 := Bool.eq_false_iff.mpr c6
   subst c6
   have H1 : (if a2 > 1099511627776 then (pylonlaw28_EnergyConvexity.j0 k l0 l1 a2 true) else ((pylonlaw28_awake.f k).bind fun t809 => (pylonlaw28_EnergyConvexity.j0 k l0 l1 a2 (!t809)))) = some r := by rw [if_neg (show ¬ (false = true) by decide)] at H; exact H
   clear H
   have H := H1
   clear H1
   by_cases c7 : a2 > 1099511627776
   ·rw [if_pos c7] at H
    have c7b0 : decide (1099511627776 < a2) = true := decide_eq_true c7
    clear c7
    (first | rw [c7b0] | (simp only [i64_w, i32_w]; rw [c7b0]) | skip)
    have H' := Aside0.mk H
    clear H
    go_wp2_with (first | ((with_reducible refine gate_callee (f := 29) rfl ?_); refine goesL_ (some 15) rfl rfl Try.func29 m_13 rfl #[.slice A0 l0.length c0, .slice A1 l1.length c1] rfl m_2 ?_; (with_reducible refine (pylonlaw28_Long.calls k _ _ l0 _ _ l1 false _ ?side1 ?side2 ?side3 ?side4 A5.out).mono ?_); (case side1 => exact cA_ (Kd.C_below HR0.out HB.out)); (case side2 => exact HC0.out); (case side3 => exact cA_ (Kd.C_below HR1.out HB.out)); (case side4 => exact HC1.out); rintro e w' ⟨rfl, ⟨nd, rfl⟩⟩; refine ⟨_, rfl, ?_⟩))
    go_meet
    case rel => exact ⟨_, (true), m_9, H', ⟨m_71⟩, ⟨m_1⟩⟩
   ·rw [if_neg c7] at H
    have c7b0 : decide (1099511627776 < a2) = false := decide_eq_false c7
    clear c7
    (first | rw [c7b0] | (simp only [i64_w, i32_w]; rw [c7b0]) | skip)
    replace H := Option.bind_eq_some_iff.mp H
    obtain ⟨t809, A80, H⟩ := H
    replace H : (pylonlaw28_EnergyConvexity.j0 k l0 l1 a2 (!t809)) = some r := H
    have A8 := Aside0.mk A80
    clear A80
    have H' := Aside0.mk H
    clear H
    go_wp2_with (first | ((with_reducible refine gate_callee (f := 29) rfl ?_); refine goesL_ (some 15) rfl rfl Try.func29 m_13 rfl #[.slice A0 l0.length c0, .slice A1 l1.length c1] rfl m_2 ?_; (with_reducible refine (pylonlaw28_Long.calls k _ _ l0 _ _ l1 false _ ?side1 ?side2 ?side3 ?side4 A5.out).mono ?_); (case side1 => exact cA_ (Kd.C_below HR0.out HB.out)); (case side2 => exact HC0.out); (case side3 => exact cA_ (Kd.C_below HR1.out HB.out)); (case side4 => exact HC1.out); rintro e w' ⟨rfl, ⟨nd, rfl⟩⟩; refine ⟨_, rfl, ?_⟩) | (go_at_call 30; (with_reducible refine (pylonlaw28_awake.calls k  t809 _ A8.out).mono ?_); rintro e w9 ⟨rfl, hb⟩; replace HB := Aside0.mk (below_step m_1 hb); clear hb))
    go_meet
    case rel => exact ⟨_, (!t809), m_9, H', ⟨m_71⟩, ⟨m_1⟩⟩
 case rest =>
  clear HC4
  (try clear c1); (try clear c2); (try clear p2); (try clear c6); (try clear c7); (try clear c7b0)
  obtain ⟨kq, x23_3, rfl, HA, HJ3, HB⟩ := hcut
  cases kq with
  | zero => exact absurd HA.out (by simp [pylonlaw28_EnergyConvexity.j0])
  | succ kj3 =>
   have H := HA.out
   clear HA
   simp only [pylonlaw28_EnergyConvexity.j0] at H
   by_cases c10 : x23_3 = true
   ·subst c10
    have H1 : ((pylonlaw28_awake.f kj3).bind fun t810 => (some t810)) = some r := by rw [if_pos rfl] at H; exact H
    clear H
    have H := H1
    clear H1
    replace H := Option.bind_eq_some_iff.mp H
    obtain ⟨t810, A110, H⟩ := H
    replace H : (some t810) = some r := H
    have A11 := Aside0.mk A110
    clear A110
    obtain rfl := Option.some.inj H
    go_wp2_with (first | ((with_reducible refine gate_callee (f := 30) rfl ?_); refine goesL_ (some 24) rfl rfl Try.func30 m_13 rfl #[] rfl m_2 ?_; (with_reducible refine (pylonlaw28_awake.calls kj3  t810 _ A11.out).mono ?_); rintro e w12 ⟨rfl, hb⟩; refine ⟨_, rfl, ?_⟩; replace HB := Aside0.mk (below_step m_1 hb); clear hb))
    go_ret
    exact ⟨m_5, m_1⟩
   ·replace c10 := Bool.eq_false_iff.mpr c10
    subst c10
    have H1 : ((energy_LeastCost.f kj3 l0 l1 a2).bind fun bt811 => ((energy_LeastCost.f kj3 l0 l1 (wrap64 (a2 + 1))).bind fun bt813 => ((energy_LeastCost.f kj3 l0 l1 (wrap64 (a2 + 2))).bind fun bt815 => (if bt811.2 = 0 then (if bt813.2 = 0 then (if bt815.2 = 0 then (some (decide ((wrap64 (bt815.1 - bt813.1)) ≥ (wrap64 (bt813.1 - bt811.1))))) else (some true)) else (some true)) else (some true))))) = some r := by rw [if_neg (show ¬ (false = true) by decide)] at H; exact H
    clear H
    have H := H1
    clear H1
    replace H := Option.bind_eq_some_iff.mp H
    obtain ⟨⟨t811, t812⟩, A130, H⟩ := H
    replace H : ((energy_LeastCost.f kj3 l0 l1 (wrap64 (a2 + 1))).bind fun bt813 => ((energy_LeastCost.f kj3 l0 l1 (wrap64 (a2 + 2))).bind fun bt815 => (if t812 = 0 then (if bt813.2 = 0 then (if bt815.2 = 0 then (some (decide ((wrap64 (bt815.1 - bt813.1)) ≥ (wrap64 (bt813.1 - t811))))) else (some true)) else (some true)) else (some true)))) = some r := H
    have A13 := Aside0.mk A130
    clear A130
    replace H := Option.bind_eq_some_iff.mp H
    obtain ⟨⟨t813, t814⟩, A140, H⟩ := H
    replace H : ((energy_LeastCost.f kj3 l0 l1 (wrap64 (a2 + 2))).bind fun bt815 => (if t812 = 0 then (if t814 = 0 then (if bt815.2 = 0 then (some (decide ((wrap64 (bt815.1 - t813)) ≥ (wrap64 (t813 - t811))))) else (some true)) else (some true)) else (some true))) = some r := H
    have A14 := Aside0.mk A140
    clear A140
    replace H := Option.bind_eq_some_iff.mp H
    obtain ⟨⟨t815, t816⟩, A150, H⟩ := H
    replace H : (if t812 = 0 then (if t814 = 0 then (if t816 = 0 then (some (decide ((wrap64 (t815 - t813)) ≥ (wrap64 (t813 - t811))))) else (some true)) else (some true)) else (some true)) = some r := H
    have A15 := Aside0.mk A150
    clear A150
    by_cases c16 : t812 = 0
    ·rw [if_pos c16] at H
     have c16b1 : (t812 != 0) = false := bne_eq_false_iff_eq.mpr c16
     clear c16
     by_cases c17 : t814 = 0
     ·rw [if_pos c17] at H
      have c17b1 : (t814 != 0) = false := bne_eq_false_iff_eq.mpr c17
      clear c17
      by_cases c18 : t816 = 0
      ·rw [if_pos c18] at H
       have c18b1 : (t816 != 0) = false := bne_eq_false_iff_eq.mpr c18
       clear c18
       obtain rfl := Option.some.inj H
       go_wp2_with (first | ((with_reducible refine gate_callee (f := 33) rfl ?_); refine goesL_ (some 29) rfl rfl Try.func33 m_13 rfl #[.slice A0 l0.length c0, .slice A1 l1.length c1, .int .i64 a2] rfl m_2 ?_; (with_reducible refine (energy_LeastCost.calls kj3 _ _ l0 _ _ l1 a2 t811 t812 _ ?side1 ?side2 ?side3 ?side4 A13.out).mono ?_); (case side1 => exact cA_ (Kd.C_below HR0.out HB.out)); (case side2 => exact HC0.out); (case side3 => exact cA_ (Kd.C_below HR1.out HB.out)); (case side4 => exact HC1.out); rintro e w19 ⟨rfl, hb⟩; refine ⟨_, rfl, ?_⟩; replace HB := Aside0.mk (below_step m_1 hb); clear hb) | ((with_reducible refine gate_callee (f := 33) rfl ?_); refine goesL_ (some 37) rfl rfl Try.func33 m_13 rfl #[.slice A0 l0.length c0, .slice A1 l1.length c1, .int .i64 (wrap64 (a2 + 1))] rfl m_2 ?_; (with_reducible refine (energy_LeastCost.calls kj3 _ _ l0 _ _ l1 (wrap64 (a2 + 1)) t813 t814 _ ?side1 ?side2 ?side3 ?side4 A14.out).mono ?_); (case side1 => exact cA_ (Kd.C_below HR0.out HB.out)); (case side2 => exact HC0.out); (case side3 => exact cA_ (Kd.C_below HR1.out HB.out)); (case side4 => exact HC1.out); rintro e w20 ⟨rfl, hb⟩; refine ⟨_, rfl, ?_⟩; replace HB := Aside0.mk (below_step m_1 hb); clear hb) | ((with_reducible refine gate_callee (f := 33) rfl ?_); refine goesL_ (some 45) rfl rfl Try.func33 m_13 rfl #[.slice A0 l0.length c0, .slice A1 l1.length c1, .int .i64 (wrap64 (a2 + 2))] rfl m_2 ?_; (with_reducible refine (energy_LeastCost.calls kj3 _ _ l0 _ _ l1 (wrap64 (a2 + 2)) t815 t816 _ ?side1 ?side2 ?side3 ?side4 A15.out).mono ?_); (case side1 => exact cA_ (Kd.C_below HR0.out HB.out)); (case side2 => exact HC0.out); (case side3 => exact cA_ (Kd.C_below HR1.out HB.out)); (case side4 => exact HC1.out); rintro e w21 ⟨rfl, hb⟩; refine ⟨_, rfl, ?_⟩; replace HB := Aside0.mk (below_step m_1 hb); clear hb))
       go_ret
       exact ⟨m_5, m_1⟩
      ·rw [if_neg c18] at H
       have c18b1 : (t816 != 0) = true := bne_iff_ne.mpr c18
       obtain rfl := Option.some.inj H
       go_wp2_with (first | ((with_reducible refine gate_callee (f := 33) rfl ?_); refine goesL_ (some 29) rfl rfl Try.func33 m_13 rfl #[.slice A0 l0.length c0, .slice A1 l1.length c1, .int .i64 a2] rfl m_2 ?_; (with_reducible refine (energy_LeastCost.calls kj3 _ _ l0 _ _ l1 a2 t811 t812 _ ?side1 ?side2 ?side3 ?side4 A13.out).mono ?_); (case side1 => exact cA_ (Kd.C_below HR0.out HB.out)); (case side2 => exact HC0.out); (case side3 => exact cA_ (Kd.C_below HR1.out HB.out)); (case side4 => exact HC1.out); rintro e w22 ⟨rfl, hb⟩; refine ⟨_, rfl, ?_⟩; replace HB := Aside0.mk (below_step m_1 hb); clear hb) | ((with_reducible refine gate_callee (f := 33) rfl ?_); refine goesL_ (some 37) rfl rfl Try.func33 m_13 rfl #[.slice A0 l0.length c0, .slice A1 l1.length c1, .int .i64 (wrap64 (a2 + 1))] rfl m_2 ?_; (with_reducible refine (energy_LeastCost.calls kj3 _ _ l0 _ _ l1 (wrap64 (a2 + 1)) t813 t814 _ ?side1 ?side2 ?side3 ?side4 A14.out).mono ?_); (case side1 => exact cA_ (Kd.C_below HR0.out HB.out)); (case side2 => exact HC0.out); (case side3 => exact cA_ (Kd.C_below HR1.out HB.out)); (case side4 => exact HC1.out); rintro e w23 ⟨rfl, hb⟩; refine ⟨_, rfl, ?_⟩; replace HB := Aside0.mk (below_step m_1 hb); clear hb) | ((with_reducible refine gate_callee (f := 33) rfl ?_); refine goesL_ (some 45) rfl rfl Try.func33 m_13 rfl #[.slice A0 l0.length c0, .slice A1 l1.length c1, .int .i64 (wrap64 (a2 + 2))] rfl m_2 ?_; (with_reducible refine (energy_LeastCost.calls kj3 _ _ l0 _ _ l1 (wrap64 (a2 + 2)) t815 t816 _ ?side1 ?side2 ?side3 ?side4 A15.out).mono ?_); (case side1 => exact cA_ (Kd.C_below HR0.out HB.out)); (case side2 => exact HC0.out); (case side3 => exact cA_ (Kd.C_below HR1.out HB.out)); (case side4 => exact HC1.out); rintro e w24 ⟨rfl, hb⟩; refine ⟨_, rfl, ?_⟩; replace HB := Aside0.mk (below_step m_1 hb); clear hb))
       go_ret
       exact ⟨m_5, m_1⟩
     ·rw [if_neg c17] at H
      have c17b1 : (t814 != 0) = true := bne_iff_ne.mpr c17
      obtain rfl := Option.some.inj H
      go_wp2_with (first | ((with_reducible refine gate_callee (f := 33) rfl ?_); refine goesL_ (some 29) rfl rfl Try.func33 m_13 rfl #[.slice A0 l0.length c0, .slice A1 l1.length c1, .int .i64 a2] rfl m_2 ?_; (with_reducible refine (energy_LeastCost.calls kj3 _ _ l0 _ _ l1 a2 t811 t812 _ ?side1 ?side2 ?side3 ?side4 A13.out).mono ?_); (case side1 => exact cA_ (Kd.C_below HR0.out HB.out)); (case side2 => exact HC0.out); (case side3 => exact cA_ (Kd.C_below HR1.out HB.out)); (case side4 => exact HC1.out); rintro e w25 ⟨rfl, hb⟩; refine ⟨_, rfl, ?_⟩; replace HB := Aside0.mk (below_step m_1 hb); clear hb) | ((with_reducible refine gate_callee (f := 33) rfl ?_); refine goesL_ (some 37) rfl rfl Try.func33 m_13 rfl #[.slice A0 l0.length c0, .slice A1 l1.length c1, .int .i64 (wrap64 (a2 + 1))] rfl m_2 ?_; (with_reducible refine (energy_LeastCost.calls kj3 _ _ l0 _ _ l1 (wrap64 (a2 + 1)) t813 t814 _ ?side1 ?side2 ?side3 ?side4 A14.out).mono ?_); (case side1 => exact cA_ (Kd.C_below HR0.out HB.out)); (case side2 => exact HC0.out); (case side3 => exact cA_ (Kd.C_below HR1.out HB.out)); (case side4 => exact HC1.out); rintro e w26 ⟨rfl, hb⟩; refine ⟨_, rfl, ?_⟩; replace HB := Aside0.mk (below_step m_1 hb); clear hb) | ((with_reducible refine gate_callee (f := 33) rfl ?_); refine goesL_ (some 45) rfl rfl Try.func33 m_13 rfl #[.slice A0 l0.length c0, .slice A1 l1.length c1, .int .i64 (wrap64 (a2 + 2))] rfl m_2 ?_; (with_reducible refine (energy_LeastCost.calls kj3 _ _ l0 _ _ l1 (wrap64 (a2 + 2)) t815 t816 _ ?side1 ?side2 ?side3 ?side4 A15.out).mono ?_); (case side1 => exact cA_ (Kd.C_below HR0.out HB.out)); (case side2 => exact HC0.out); (case side3 => exact cA_ (Kd.C_below HR1.out HB.out)); (case side4 => exact HC1.out); rintro e w27 ⟨rfl, hb⟩; refine ⟨_, rfl, ?_⟩; replace HB := Aside0.mk (below_step m_1 hb); clear hb))
      go_ret
      exact ⟨m_5, m_1⟩
    ·rw [if_neg c16] at H
     have c16b1 : (t812 != 0) = true := bne_iff_ne.mpr c16
     obtain rfl := Option.some.inj H
     go_wp2_with (first | ((with_reducible refine gate_callee (f := 33) rfl ?_); refine goesL_ (some 29) rfl rfl Try.func33 m_13 rfl #[.slice A0 l0.length c0, .slice A1 l1.length c1, .int .i64 a2] rfl m_2 ?_; (with_reducible refine (energy_LeastCost.calls kj3 _ _ l0 _ _ l1 a2 t811 t812 _ ?side1 ?side2 ?side3 ?side4 A13.out).mono ?_); (case side1 => exact cA_ (Kd.C_below HR0.out HB.out)); (case side2 => exact HC0.out); (case side3 => exact cA_ (Kd.C_below HR1.out HB.out)); (case side4 => exact HC1.out); rintro e w28 ⟨rfl, hb⟩; refine ⟨_, rfl, ?_⟩; replace HB := Aside0.mk (below_step m_1 hb); clear hb) | ((with_reducible refine gate_callee (f := 33) rfl ?_); refine goesL_ (some 37) rfl rfl Try.func33 m_13 rfl #[.slice A0 l0.length c0, .slice A1 l1.length c1, .int .i64 (wrap64 (a2 + 1))] rfl m_2 ?_; (with_reducible refine (energy_LeastCost.calls kj3 _ _ l0 _ _ l1 (wrap64 (a2 + 1)) t813 t814 _ ?side1 ?side2 ?side3 ?side4 A14.out).mono ?_); (case side1 => exact cA_ (Kd.C_below HR0.out HB.out)); (case side2 => exact HC0.out); (case side3 => exact cA_ (Kd.C_below HR1.out HB.out)); (case side4 => exact HC1.out); rintro e w29 ⟨rfl, hb⟩; refine ⟨_, rfl, ?_⟩; replace HB := Aside0.mk (below_step m_1 hb); clear hb) | ((with_reducible refine gate_callee (f := 33) rfl ?_); refine goesL_ (some 45) rfl rfl Try.func33 m_13 rfl #[.slice A0 l0.length c0, .slice A1 l1.length c1, .int .i64 (wrap64 (a2 + 2))] rfl m_2 ?_; (with_reducible refine (energy_LeastCost.calls kj3 _ _ l0 _ _ l1 (wrap64 (a2 + 2)) t815 t816 _ ?side1 ?side2 ?side3 ?side4 A15.out).mono ?_); (case side1 => exact cA_ (Kd.C_below HR0.out HB.out)); (case side2 => exact HC0.out); (case side3 => exact cA_ (Kd.C_below HR1.out HB.out)); (case side4 => exact HC1.out); rintro e w30 ⟨rfl, hb⟩; refine ⟨_, rfl, ?_⟩; replace HB := Aside0.mk (below_step m_1 hb); clear hb))
     go_ret
     exact ⟨m_5, m_1⟩
def marg : List S99 → Int → Int
  | [], _ => 0
  | s :: l, q => if q < s.f0 then s.f1 else marg l (q - s.f0)
theorem part_marg : ∀ (l : List S99) (q : Int), okL l → 0 ≤ q → q < qsum l → partF l (q + 1) = partF l q + marg l q
  | [], q, _, h0, h1 => by simp [qsum] at h1; omega
  | s :: l, q, h, h0, h1 => by
    have hs := h s List.mem_cons_self
    have hl : okL l := fun x hx => h x (List.mem_cons_of_mem _ hx)
    rw [qsum_cons] at h1
    rw [partF, partF, marg]
    by_cases hq : q < s.f0
    · have e1 : mn q s.f0 = q := by unfold mn; rw [if_neg (by omega)]
      have e2 : mn (q + 1) s.f0 = q + 1 := by unfold mn; rw [if_neg (by omega)]
      rw [e1, e2, if_pos hq, Int.sub_self, Int.sub_self, partF_0 l hl, Int.add_mul]
      omega
    · have e1 : mn q s.f0 = s.f0 := by unfold mn; split <;> omega
      have e2 : mn (q + 1) s.f0 = s.f0 := by unfold mn; split <;> omega
      have ih := part_marg l (q - s.f0) hl (by omega) (by omega)
      rw [e1, e2, if_neg hq, show q + 1 - s.f0 = q - s.f0 + 1 by omega, ih]
      omega
theorem marg_ge : ∀ (l : List S99) (c q : Int), okL l → (∀ s ∈ l, c < s.f1) → 0 ≤ q → q < qsum l → c < marg l q
  | [], c, q, _, _, h0, h1 => by simp [qsum] at h1; omega
  | s :: l, c, q, h, hc, h0, h1 => by
    have hs := h s List.mem_cons_self
    rw [qsum_cons] at h1
    rw [marg]
    split
    · exact hc s List.mem_cons_self
    · exact marg_ge l c (q - s.f0) (fun x hx => h x (List.mem_cons_of_mem _ hx)) (fun x hx => hc x (List.mem_cons_of_mem _ hx)) (by omega) (by omega)
theorem marg_mono : ∀ (l : List S99) (q q' : Int), okL l → risB l = true → 0 ≤ q → q ≤ q' → q' < qsum l → marg l q ≤ marg l q'
  | [], q, q', _, _, h0, h1, h2 => by simp [qsum] at h2; omega
  | s :: l, q, q', h, hr, h0, h1, h2 => by
    have hs := h s List.mem_cons_self
    have hl : okL l := fun x hx => h x (List.mem_cons_of_mem _ hx)
    rw [qsum_cons] at h2
    rw [marg, marg]
    by_cases a : q < s.f0
    · rw [if_pos a]
      by_cases b : q' < s.f0
      · rw [if_pos b]; omega
      · rw [if_neg b]
        have := marg_ge l s.f1 (q' - s.f0) hl (ris_lt hr) (by omega) (by omega)
        omega
    · rw [if_neg a, if_neg (by omega)]
      exact marg_mono l _ _ hl (ris_tail hr) (by omega) (by omega) (by omega)
theorem part_conv {u : S24} (hu : OkU u) {q q' : Int} (h0 : 0 ≤ q) (h1 : q < q') (h2 : q' ≤ qsum u.f2) : partF u.f2 (q + 1) + partF u.f2 (q' - 1) ≤ partF u.f2 q + partF u.f2 q' := by
  have hb := okU_bnd hu
  have hg := good_u (good_of hu)
  have e1 := part_marg u.f2 q hb.2.2.1 h0 (by omega)
  have e2 := part_marg u.f2 (q' - 1) hb.2.2.1 (by omega) (by omega)
  have hm := marg_mono u.f2 q (q' - 1) hb.2.2.1 hg.2.2.2.2 h0 (by omega) (by omega)
  rw [show q' - 1 + 1 = q' by omega] at e2
  omega
theorem conv_step : ∀ (us : List S24) (bs : List Bool) (g h : List Int), (∀ u ∈ us, OkU u) → bs.length = us.length → g.length = us.length → h.length = us.length → allR us bs g = true → allR us bs h = true → sumL g < sumL h →
    ∃ r r' : List Int, r.length = us.length ∧ r'.length = us.length ∧ allR us bs r = true ∧ allR us bs r' = true ∧ sumL r = sumL g + 1 ∧ sumL r' = sumL h - 1 ∧ sumP us r + sumP us r' ≤ sumP us g + sumP us h
  | [], _, [], [], _, _, _, _, _, _, hlt => by simp [sumL] at hlt
  | [], _, _ :: _, _, _, _, h, _, _, _, _ => by simp at h
  | [], _, [], _ :: _, _, _, _, h, _, _, _ => by simp at h
  | _ :: _, [], _, _, _, h, _, _, _, _, _ => by simp at h
  | _ :: _, _ :: _, [], _, _, _, h, _, _, _, _ => by simp at h
  | _ :: _, _ :: _, _ :: _, [], _, _, _, h, _, _, _ => by simp at h
  | u :: us, b :: bs, x :: g, y :: h, ho, h1, h2, h3, ha, hb, hlt => by
    have hu := ho u List.mem_cons_self
    rw [allR, Bool.and_eq_true] at ha hb
    rw [sumL, sumL] at hlt
    by_cases hxy : x < y
    · cases b with
      | false =>
        have e1 := ha.1
        have e2 := hb.1
        simp [inR] at e1 e2
        omega
      | true =>
        have e1 := ha.1
        have e2 := hb.1
        simp [inR] at e1 e2
        have hm := hu.min0
        have hc := part_conv hu (q := x) (q' := y) (by omega) hxy (by omega)
        refine ⟨(x + 1) :: g, (y - 1) :: h, by simpa using h2, by simpa using h3, ?_, ?_, by rw [sumL, sumL]; omega, by rw [sumL, sumL]; omega, ?_⟩
        · rw [allR, ha.2]; simp [inR]; omega
        · rw [allR, hb.2]; simp [inR]; omega
        · rw [sumP, sumP, sumP, sumP]; omega
    · obtain ⟨r, r', a1, a2, a3, a4, a5, a6, a7⟩ := conv_step us bs g h (fun z hz => ho z (List.mem_cons_of_mem _ hz)) (by simpa using h1) (by simpa using h2) (by simpa using h3) ha.2 hb.2 (by omega)
      refine ⟨x :: r, y :: r', by simp [a1], by simp [a2], by rw [allR, ha.1, a3]; rfl, by rw [allR, hb.1, a4]; rfl, by rw [sumL, sumL]; omega, by rw [sumL, sumL]; omega, ?_⟩
      rw [sumP, sumP, sumP, sumP]
      omega
theorem KR_0 : ∀ (i : Nat) (us : List S24) (rs : List Int), KR 1 (fun _ => 0) i us rs = sumP us rs
  | _, [], _ => by simp [KR, sumP]
  | _, _ :: _, [] => by simp [KR, sumP]
  | i, u :: us, r :: rs => by rw [KR, sumP, KR_0 (i + 1) us rs]; simp [KU]
theorem wok0 : Wok 1 (fun _ => 0) := ⟨by omega, fun _ _ _ _ _ => Int.le_refl _, fun _ _ _ _ _ _ => by omega⟩
theorem least_ok {l0 : List S24} {l1 : List Bool} {d : Int} (hc : ckF l0 l1 = 0) (h : (leastR l0 l1 d).2 = 0) : 0 ≤ d ∧ leastF l0 l1 ≤ d ∧ d ≤ mostF l0 l1 ∧ leastR l0 l1 d = (sumP l0 (allocRow l0 l1 (d - leastF l0 l1)), 0) := by
  have hl := lm_bnd l0 l1 (ck_ok hc).2.2
  have ha : allocR l0 l1 d = if d < 0 then ([], 1) else if d < leastF l0 l1 then ([], 8) else if d > mostF l0 l1 then ([], 8) else (allocRow l0 l1 (d - leastF l0 l1), 0) := by unfold allocR; rw [if_pos hc]
  unfold leastR at h ⊢
  rw [ha] at h ⊢
  by_cases c1 : d < 0
  · rw [if_pos c1] at h; simp at h
  · rw [if_neg c1] at h ⊢
    by_cases c2 : d < leastF l0 l1
    · rw [if_pos c2] at h; simp at h
    · rw [if_neg c2] at h ⊢
      by_cases c3 : d > mostF l0 l1
      · rw [if_pos c3] at h; simp at h
      · rw [if_neg c3]
        have ho := alloc_opt hc (show leastF l0 l1 ≤ d by omega) (show d ≤ mostF l0 l1 by omega)
        refine ⟨by omega, by omega, by omega, ?_⟩
        rw [if_pos rfl]
        unfold costR
        rw [if_pos hc, if_pos ho.1, if_pos ho.2.1]
theorem least_ck {l0 : List S24} {l1 : List Bool} {d : Int} (hc : ckF l0 l1 ≠ 0) : (leastR l0 l1 d).2 ≠ 0 := by
  unfold leastR allocR
  rw [if_neg hc]
  simp only
  rw [if_neg hc]
  exact hc
theorem sumP_bnd : ∀ (us : List S24) (bs : List Bool) (rs : List Int), (∀ u ∈ us, OkU u) → allR us bs rs = true → bs.length = us.length → -(3000000000000 * (us.length : Int)) ≤ sumP us rs ∧ sumP us rs ≤ 3000000000000 * (us.length : Int)
  | [], _, _, _, _, _ => by simp [sumP]
  | _ :: _, _, [], _, _, _ => by simp [sumP]; omega
  | _ :: _, [], _ :: _, _, _, h => by simp at h
  | u :: us, b :: bs, r :: rs, ho, ha, hl => by
    have hu := ho u List.mem_cons_self
    have hb := okU_bnd hu
    rw [allR, Bool.and_eq_true] at ha
    have ih := sumP_bnd us bs rs (fun z hz => ho z (List.mem_cons_of_mem _ hz)) ha.2 (by simpa using hl)
    have hr : 0 ≤ r := by
      have e := ha.1
      have := hu.min0
      cases b <;> simp [inR] at e <;> omega
    have hp := partF_bnd u.f2 r hb.2.2.1 hr
    rw [sumP, List.length_cons]
    omega
def anyLong : List S24 → Bool
  | [] => false
  | u :: l => decide (20 < u.f2.length) || anyLong l
def longB (l0 : List S24) (l1 : List Bool) : Bool := decide (30 < l0.length) || decide (30 < l1.length) || anyLong l0
theorem long_loop (l0 : List S24) (hl : l0.length ≤ 30) (d : Nat) : ∀ i : Nat, l0.length - i = d → i ≤ l0.length → Evs (fun k => pylonlaw28_Long.l0 k l0 (i : Int)) (anyLong (l0.drop i)) := by
  induction d with
  | zero =>
    intro i hd hi
    obtain rfl : i = l0.length := by omega
    refine Evs.succ (Evs.all fun k => ?_)
    simp only [pylonlaw28_Long.l0]
    rw [if_neg (by omega)]
    simp [anyLong]
  | succ d ih =>
    intro i hd hi
    have hlt : i < l0.length := by omega
    have e1 := rd24 l0 i hlt
    have hd2 : l0.drop i = l0[i] :: l0.drop (i + 1) := List.drop_eq_getElem_cons hlt
    generalize l0[i] = u at e1 hd2
    have h := ih (i + 1) (by omega) (by omega)
    rw [hd2, anyLong]
    refine Evs.succ ?_
    simp only [pylonlaw28_Long.l0, if_pos (show (i : Int) < (l0.length : Int) by omega), if_pos (show (0 : Int) ≤ (i : Int) by omega), e1]
    by_cases c : 20 < u.f2.length
    · simp only [if_pos (show ((u.f2.length : Nat) : Int) > 20 by omega)]
      rw [decide_eq_true c]
      exact Evs.const rfl
    · simp only [if_neg (show ¬ ((u.f2.length : Nat) : Int) > 20 by omega)]
      rw [decide_eq_false c, Bool.false_or, wrap_id (x := (i : Int) + 1) (by omega) (by omega)]
      exact h
theorem Long_f (l0 : List S24) (l1 : List Bool) : Evs (fun k => pylonlaw28_Long.f k l0 l1) (longB l0 l1) := by
  unfold pylonlaw28_Long.f longB
  by_cases c : 30 < l0.length
  · simp only [if_pos (show (l0.length : Int) > 30 by omega)]
    rw [decide_eq_true c, Bool.true_or, Bool.true_or]
    refine Evs.succ (Evs.all fun k => ?_)
    simp only [pylonlaw28_Long.j0, if_true]
  · simp only [if_neg (show ¬ (l0.length : Int) > 30 by omega)]
    rw [decide_eq_false c, Bool.false_or]
    have e : decide ((l1.length : Int) > 30) = decide (30 < l1.length) := by rw [decide_eq_decide]; omega
    rw [e]
    refine Evs.succ ?_
    simp only [pylonlaw28_Long.j0]
    by_cases c2 : 30 < l1.length
    · rw [decide_eq_true c2, Bool.true_or]
      simp only [if_true]
      exact Evs.const rfl
    · rw [decide_eq_false c2, Bool.false_or]
      simp only [if_neg (show ¬ (false = true) by decide)]
      have := long_loop l0 (by omega) l0.length 0 (by omega) (by omega)
      rw [List.drop_zero] at this
      exact this
theorem convexity_plain (l0 : List S24) (l1 : List Bool) (a2 : Int) (hlo : -9223372036854775808 ≤ a2) : Evs (fun k => pylonlaw28_EnergyConvexity.f k l0 l1 a2) true := by
  have hj : Evs (fun k => pylonlaw28_EnergyConvexity.j0 k l0 l1 a2 true) true := by
    refine Evs.succ ?_
    simp only [pylonlaw28_EnergyConvexity.j0, if_true]
    exact awake_f.bind (Evs.const rfl)
  unfold pylonlaw28_EnergyConvexity.f
  refine (Long_f l0 l1).bind ?_
  by_cases hL : longB l0 l1 = true
  · simp only [if_pos hL]
    exact hj
  · simp only [if_neg hL]
    by_cases hA : a2 > 1099511627776
    · simp only [if_pos hA]
      exact hj
    · simp only [if_neg hA]
      refine awake_f.bind ?_
      refine Evs.succ ?_
      simp only [pylonlaw28_EnergyConvexity.j0, Bool.not_true, if_neg (show ¬ (false = true) by decide)]
      have e1 : wrap64 (a2 + 1) = a2 + 1 := wrap_id (by omega) (by omega)
      have e2 : wrap64 (a2 + 2) = a2 + 2 := wrap_id (by omega) (by omega)
      rw [e1, e2]
      refine (least_f l0 l1 a2).bind ((least_f l0 l1 (a2 + 1)).bind ((least_f l0 l1 (a2 + 2)).bind ?_))
      by_cases c0 : (leastR l0 l1 a2).2 = 0
      · simp only [if_pos c0]
        by_cases c1 : (leastR l0 l1 (a2 + 1)).2 = 0
        · simp only [if_pos c1]
          by_cases c2 : (leastR l0 l1 (a2 + 2)).2 = 0
          · simp only [if_pos c2]
            refine Evs.const (congrArg some (decide_eq_true ?_))
            by_cases hc : ckF l0 l1 = 0
            · obtain ⟨h5, hl1, ho⟩ := ck_ok hc
              obtain ⟨_, a1, a3, a4⟩ := least_ok hc c0
              obtain ⟨_, b1, b3, b4⟩ := least_ok hc c1
              obtain ⟨_, d1, d3, d4⟩ := least_ok hc c2
              have oa := alloc_opt hc a1 a3
              have ob := alloc_opt hc b1 b3
              have od := alloc_opt hc d1 d3
              obtain ⟨r, r', x1, x2, x3, x4, x5, x6, x7⟩ := conv_step l0 l1 _ _ ho hl1 oa.1 od.1 oa.2.1 od.2.1 (by omega)
              have k1 := ob.2.2.2 1 (fun _ => 0) wok0 r x1 x3 (by omega)
              have k2 := ob.2.2.2 1 (fun _ => 0) wok0 r' x2 x4 (by omega)
              rw [KR_0, KR_0] at k1 k2
              rw [a4, b4, d4]
              have s1 := sumP_bnd l0 l1 _ ho oa.2.1 hl1
              have s2 := sumP_bnd l0 l1 _ ho ob.2.1 hl1
              have s3 := sumP_bnd l0 l1 _ ho od.2.1 hl1
              simp only
              rw [wrap_id (by omega) (by omega), wrap_id (by omega) (by omega)]
              omega
            · exact absurd c0 (least_ck hc)
          · simp only [if_neg c2]
            exact Evs.const rfl
        · simp only [if_neg c1]
          exact Evs.const rfl
      · simp only [if_neg c0]
        exact Evs.const rfl
end Go.Proofs.Ytelklgdmhnkenaa.U
namespace Go.Proofs.Ytelklgdmhnkenaa.U
open Go.ChangeShapes Go.WideShapes Go.Deep
section
variable {H : Type} {enc : TypeId × Value → H} {P : Program} {w : World} {base : Nat} {spare : Nat → Bool} {held : Bool}
def Opens (enc : TypeId × Value → H) (P : Program) (w : World) (base : Nat) (spare : Nat → Bool) (held : Bool) {α : Type} (d : Kd α) (Q : α → Prop) (t : TypeId) : Prop :=
 ∀ (fuel : Nat) (cs : List Value) (x : DataW H × List MemPlace), DataW.trod enc P w base spare held fuel t cs = some x → ∃ y, d.K w y cs ∧ Q y
theorem opens_int {t : TypeId} {k : IntKind} (ht : P.underlying t = some (.int k)) : Opens enc P w base spare held (Kd.int k) (fun n => (Lit.int k n).wf = true) t := by
 intro fuel cs x h
 obtain ⟨n, hc, _, hw⟩ := DataW.trod_int ht h
 exact ⟨n, hc, hw⟩
theorem opens_bool {t : TypeId} (ht : P.underlying t = some .bool) : Opens enc P w base spare held Kd.bool (fun _ => True) t := by
 intro fuel cs x h
 obtain ⟨b, hc, _⟩ := DataW.trod_bool ht h
 exact ⟨b, hc, trivial⟩
theorem list_of {α : Type} (m : Nat) (R : Nat → α → Prop) (h : ∀ i, i < m → ∃ y, R i y) : ∃ l : List α, l.length = m ∧ ∀ i y, l[i]? = some y → R i y := by
 induction m with
 | zero => exact ⟨[], rfl, fun i y hy => by simp at hy⟩
 | succ m ih =>
  obtain ⟨l, hl, hr⟩ := ih (fun i hi => h i (by omega))
  obtain ⟨y, hy⟩ := h m (by omega)
  refine ⟨l ++ [y], (by simp [hl]), fun i z hz => ?_⟩
  rcases Nat.lt_or_ge i l.length with hi | hi
  ·rw [List.getElem?_append_left hi] at hz
   exact hr i z hz
  ·have : i = m := by
    have := (List.getElem?_eq_some_iff.1 hz).1
    simp at this
    omega
   subst this
   rw [← hl] at hz ⊢
   have : y = z := by simpa using hz
   subst this
   rw [hl]
   exact hy
theorem opens_slice {α : Type} {d : Kd α} {Q : α → Prop} {t e : TypeId} (ht : P.underlying t = some (.slice e)) (he : Opens enc P w base spare held d Q e) (hC : P.cellsOf e = d.sz) :
  Opens enc P w base spare held (Kd.slice e d) (fun l => ∀ y ∈ l, Q y) t := by
 intro fuel cs x h
 rcases open_slice ht h with ⟨rfl, _⟩ | ⟨a, len, cap, m, n, D, Pl, rfl, _, hl, hm, hmm, _, hi⟩
 ·exact ⟨[], ⟨none, 0, rfl, Nat.le_refl _, rfl, (by simp), fun h => absurd h (by simp)⟩, fun y hy => by cases hy⟩
 ·have hlm : len ≤ m := by rw [hmm]; split <;> omega
  obtain ⟨l, hll, hr⟩ := list_of len (fun i y => Q y ∧ ∃ cs', d.K w y cs' ∧ ∀ j u, cs'[j]? = some u → w.cell? (a.add (i * d.sz + j)) = some u) (fun i hil => by
   obtain ⟨cs', hc, htr⟩ := hi i (by omega)
   obtain ⟨y, hK, hQ⟩ := he _ _ _ htr
   rw [hC] at hc
   obtain ⟨_, hcl, hat⟩ := World.cells?_some hc
   refine ⟨y, hQ, cs', hK, fun j u hj => ?_⟩
   have hj' : j < d.sz := by have := (List.getElem?_eq_some_iff.1 hj).1; omega
   rw [← Go.Deep.add_add, hat j hj', hj])
  subst hll
  refine ⟨l, ⟨some a, cap, rfl, hl, rfl, (by simp only [maxLen] at hm; omega), fun _ => ⟨a, rfl, fun j p hj => ?_⟩⟩, fun y hy => ?_⟩
  ·obtain ⟨_, cs', hK, hat⟩ := hr j p hj
   exact ⟨cs', d.K_len hK, hK, hat⟩
  ·obtain ⟨i, hi⟩ := List.getElem?_of_mem hy
   exact (hr i y hi).1
theorem struct_cells {fs : Array Field} {t : TypeId} {fuel : Nat} {cs : List Value} {x : DataW H × List MemPlace} (ht : P.underlying t = some (.struct fs)) (hone : oneCellFields P fs = true) (h : DataW.trod enc P w base spare held fuel t cs = some x) :
  cs.length = P.cellsOf t ∧ ∀ (i : Nat) (f : Field), fs[i]? = some f → i < cs.length → ∃ n y v, cs[i]? = some v ∧ DataW.trod enc P w base spare held n f.type [v] = some y := by
 obtain ⟨ys, n, _, _, hlen, hyl, hf⟩ := DataW.trod_struct ht h
 refine ⟨hlen, fun i f hi hlt => ?_⟩
 obtain ⟨ho, hk⟩ := hone_of hone i f hi
 have h1 := hf i f hi
 rw [ho, hk, List.drop_eq_getElem_cons hlt] at h1
 have hiy : i < ys.length := by rw [hyl]; exact (Array.getElem?_eq_some_iff.1 hi).1
 rw [List.getElem?_eq_getElem hiy] at h1
 exact ⟨n, _, cs[i], List.getElem?_eq_getElem hlt, h1⟩
end
def wfI (n : Int) : Prop := -9223372036854775808 ≤ n ∧ n ≤ 9223372036854775807
theorem wfI_of {n : Int} (h : (Lit.int .i64 n).wf = true) : wfI n := bounds_i64 h
section
variable {H : Type} {enc : TypeId × Value → H} {w : World} {base : Nat} {spare : Nat → Bool} {held : Bool}
theorem open_i {t : TypeId} {n : Nat} {v : Value} {y : DataW H × List MemPlace} (ht : Try.prog.underlying t = some (.int .i64)) (h : DataW.trod enc Try.prog w base spare held n t [v] = some y) : ∃ a : Int, v = .int .i64 a ∧ wfI a := by
 obtain ⟨a, e, w0⟩ := opens_int ht _ _ _ h
 have e' : [v] = [Value.int .i64 a] := e
 exact ⟨a, (by simpa using e'), wfI_of w0⟩
theorem opens_step : Opens enc Try.prog w base spare held k99 (fun s => wfI s.f0 ∧ wfI s.f1) 99 := by
 intro fuel cs x h
 obtain ⟨hl, hc⟩ := struct_cells Try.underlying99 m_13 h
 rw [show Try.prog.cellsOf 99 = 2 from by kernel_rfl] at hl
 match cs, hl with
 | [c0, c1], _ =>
  obtain ⟨n0, y0, v0, h0, t0⟩ := hc 0 _ rfl (by simp)
  obtain ⟨n1, y1, v1, h1, t1⟩ := hc 1 _ rfl (by simp)
  obtain rfl : c0 = v0 := by simpa using h0
  obtain rfl : c1 = v1 := by simpa using h1
  obtain ⟨a, rfl, w0⟩ := open_i m_13 t0
  obtain ⟨b, rfl, w1⟩ := open_i m_13 t1
  exact ⟨⟨a, b⟩, k99_mk w ⟨a, b⟩, w0, w1⟩
structure wfU (u : S24) : Prop where
 h0 : wfI u.f0
 h1 : wfI u.f1
 h2 : ∀ s ∈ u.f2, wfI s.f0 ∧ wfI s.f1
 h3 : wfI u.f3
 h4 : wfI u.f4
 h5 : wfI u.f5
 h6 : wfI u.f6
 h7 : wfI u.f7
 h8 : wfI u.f8
set_option maxRecDepth 100000 in
theorem opens_unit : Opens enc Try.prog w base spare held k24 wfU 24 := by
 intro fuel cs x h
 obtain ⟨hl, hc⟩ := struct_cells Try.underlying24 m_13 h
 rw [show Try.prog.cellsOf 24 = 9 from by kernel_rfl] at hl
 match cs, hl with
 | [c0, c1, c2, c3, c4, c5, c6, c7, c8], _ =>
  obtain ⟨n0, y0, v0, h0, t0⟩ := hc 0 _ rfl (by simp)
  obtain ⟨n1, y1, v1, h1, t1⟩ := hc 1 _ rfl (by simp)
  obtain ⟨n2, y2, v2, h2, t2⟩ := hc 2 _ rfl (by simp)
  obtain ⟨n3, y3, v3, h3, t3⟩ := hc 3 _ rfl (by simp)
  obtain ⟨n4, y4, v4, h4, t4⟩ := hc 4 _ rfl (by simp)
  obtain ⟨n5, y5, v5, h5, t5⟩ := hc 5 _ rfl (by simp)
  obtain ⟨n6, y6, v6, h6, t6⟩ := hc 6 _ rfl (by simp)
  obtain ⟨n7, y7, v7, h7, t7⟩ := hc 7 _ rfl (by simp)
  obtain ⟨n8, y8, v8, h8, t8⟩ := hc 8 _ rfl (by simp)
  obtain rfl : c0 = v0 := by simpa using h0
  obtain rfl : c1 = v1 := by simpa using h1
  obtain rfl : c2 = v2 := by simpa using h2
  obtain rfl : c3 = v3 := by simpa using h3
  obtain rfl : c4 = v4 := by simpa using h4
  obtain rfl : c5 = v5 := by simpa using h5
  obtain rfl : c6 = v6 := by simpa using h6
  obtain rfl : c7 = v7 := by simpa using h7
  obtain rfl : c8 = v8 := by simpa using h8
  obtain ⟨a0, rfl, w0⟩ := open_i m_13 t0
  obtain ⟨a1, rfl, w1⟩ := open_i m_13 t1
  obtain ⟨l, ⟨A, c, e, hlc, hC⟩, hq⟩ := opens_slice Try.underlying22 opens_step m_13 _ _ _ t2
  obtain rfl : c2 = .slice A l.length c := by simpa using e
  obtain ⟨a3, rfl, w3⟩ := open_i m_13 t3
  obtain ⟨a4, rfl, w4⟩ := open_i m_13 t4
  obtain ⟨a5, rfl, w5⟩ := open_i m_13 t5
  obtain ⟨a6, rfl, w6⟩ := open_i m_13 t6
  obtain ⟨a7, rfl, w7⟩ := open_i m_13 t7
  obtain ⟨a8, rfl, w8⟩ := open_i m_13 t8
  exact ⟨⟨a0, a1, l, a3, a4, a5, a6, a7, a8⟩, k24_mk w ⟨a0, a1, l, a3, a4, a5, a6, a7, a8⟩ hlc hC, ⟨w0, w1, hq, w3, w4, w5, w6, w7, w8⟩⟩
end
section
variable {H : Type} {enc : TypeId × Value → H} {P : Program} {w : World} {base : Nat} {spare : Nat → Bool} {held : Bool}
theorem arg_slice {α : Type} {dk : Kd α} {Q : α → Prop} {t te : TypeId} {r : Reach} {b0 : Nat} {v : Value} {d : DataW H} {p : List MemPlace} (ht : P.underlying t = some (.slice te)) (he : Opens enc P w base spare held dk Q te) (hC : P.cellsOf te = dk.sz)
  (hv : Value.okWide P w r b0 t v) (h : DataW.Trod enc P w base spare held t v d p) : ∃ (l : List α) (A : Option Addr) (c : Nat), v = .slice A l.length c ∧ l.length ≤ c ∧ Kd.C dk w A l.length l ∧ ∀ y ∈ l, Q y := by
 obtain ⟨a, len, cap, hv2⟩ := okWide_slice ht hv
 subst hv2
 obtain ⟨fuel, hf⟩ := h
 obtain ⟨l, ⟨A, c, e1, hlc, hC1⟩, hq⟩ := opens_slice ht he hC _ _ _ hf
 exact ⟨l, A, c, (by simpa [Value.cells] using e1), hlc, hC1, hq⟩
end
theorem EnergyConvexity_law (l0 : List S24) (l1 : List Bool) (a2 : Int) (_ : ∀ y ∈ l0, wfU y) (_ : ∀ y ∈ l1, True) (h : -9223372036854775808 ≤ a2 ∧ a2 ≤ 9223372036854775807) : ∃ k, pylonlaw28_EnergyConvexity.f k l0 l1 a2 = some true := (convexity_plain l0 l1 a2 h.1).some
end Go.Proofs.Ytelklgdmhnkenaa.U
namespace Go.Proofs.Ytelklgdmhnkenaa.energyConvexity
open Go.ChangeShapes Go.WideShapes Go.ChangeAt Go.RowKit Go.Proofs.Ytelklgdmhnkenaa.U Go.Proofs.YtelklgdmhnkenaaW.PrintWords
theorem own : ownKnob Try.prog.godebug = none := by kernel_rfl
theorem laidOut : laidOutB Try.prog = true := by kernel_rfl
set_option maxHeartbeats 2000000 in
set_option maxRecDepth 100000 in
theorem lifted (os : Os) (started : os.Started) (H : Type) (enc : TypeId × Value → H) :
  ReturnsInHanded {} Try.checked os 12 .any (Rows.energyConvexitySpec.pre6 enc Try.prog Try.f12 Rows.energyConvexityRow.domain false) (Rows.energyConvexitySpec.post enc Try.prog Try.f12 false true false false) := by
 refine returnsInHanded_of_change_sized (C := Try.checked) own started m_13 Try.func12
  (ChangeSpec.witness6 (enc := enc) (C := Try.checked) false ⟨#[], #[.slice none 0 0, .slice none 0 0, .int .i64 0], []⟩ 8 m_13 m_13 m_13 m_13) ?_
 intro W base args ds gs before hval0 hW hcnd hsz0 _
 have hval : ∀ (j : Nat) t v, Try.f12.params[j]? = some t → args[j]? = some v → Value.okWide Try.prog W .any base t v := hval0
 have hW' := hW
 obtain ⟨p, q, hA0, hV, rfl, hfz, hnd⟩ := hW
 have hA : DataW.TrodAll enc Try.prog W 0 (fun _ => true) true Try.f12.params.toList args.toList ds p := hA0
 rw [Try.params12] at hA hval
 obtain ⟨v0, vs0, d0, ds0, p0, q0, hargs, rfl, rfl, h0, r0⟩ := trodAll_cons hA
 obtain ⟨v1, vs1, d1, ds1, p1, q1, rfl, rfl, rfl, h1, r1⟩ := trodAll_cons r0
 obtain ⟨v2, vs2, d2, ds2, p2, q2, rfl, rfl, rfl, h2, r2⟩ := trodAll_cons r1
 obtain ⟨rfl, rfl, rfl⟩ := trodAll_nil r2
 obtain rfl : args = #[v0, v1, v2] := by cases args; simp_all
 obtain ⟨rfl, rfl⟩ := trodVars_none hV
 have k0 := h0
 have lt0 : ∀ x ∈ p0, x.block < W.heap.size := by obtain ⟨m, hm⟩ := k0; exact DataW.trod_lt m _ _ _ hm
 obtain ⟨l0, A0, c0, e0, hc0, hC0, hq0⟩ := arg_slice (te := 24) m_13 opens_unit m_13 (hval 0 45 v0 rfl rfl) h0
 subst e0
 have k1 := h1
 have lt1 : ∀ x ∈ p1, x.block < W.heap.size := by obtain ⟨m, hm⟩ := k1; exact DataW.trod_lt m _ _ _ hm
 obtain ⟨l1, A1, c1, e1, hc1, hC1, hq1⟩ := arg_slice (te := 4) m_13 (opens_bool (t := 4) m_13) m_13 (hval 1 32 v1 rfl rfl) h1
 subst e1
 obtain ⟨a2, rfl, rfl, rfl, w2⟩ := open_int (k := .i64) m_13 (hval 2 2 v2 rfl rfl) h2
 clear hA0 hval0 hsz0
 obtain ⟨k, hk⟩ := EnergyConvexity_law l0 l1 a2 hq0 hq1 (bounds_i64 w2)
 refine (pylonlaw28_EnergyConvexity.calls k A0 c0 l0 A1 c1 l1 a2 true W hC0 hc0 hC1 hc1 hk).mono fun e W' ⟨he, bel⟩ => ?_
 subst he
 exact ⟨_, rfl, _, _, _, [], _, [], hW', trodAll_mk1 (shut_bool m_13 _), (trodAll_cons_mk (Below.trod laidOut m_13 (of_decide_eq_true m_13) k0 bel lt0) (trodAll_cons_mk (Below.trod laidOut m_13 (of_decide_eq_true m_13) k1 bel lt1) (trodAll_cons_mk (shut_int m_13 w2) trodAll_mk0))), rfl, bel.frame _, fun h => by cases h⟩
theorem over : Rows.energyConvexityRow.holds Try.pinned (OpenSpec.ofChange Rows.energyConvexitySpec) :=
 OpenClaim.holds_of_wide 12 Try.f12 rfl rfl rfl rfl rfl rfl rfl ⟨rfl, rfl, rfl, rfl, rfl⟩ rfl rfl rfl rfl rfl m_13 Try.func12 m_13
  (of_decide_eq_true m_13) m_80
  (fun os started H enc _ => lifted os started H enc)
end Go.Proofs.Ytelklgdmhnkenaa.energyConvexity
namespace Go.Proofs.Ytelklgdmhnkenaa
theorem energyConvexity_holds : Rows.EnergyConvexitySaid := energyConvexity.over
#print axioms energyConvexity_holds
end Go.Proofs.Ytelklgdmhnkenaa
