/- The EnergyExchange law, for every input that can be read: the call returns true, and the arguments read afterwards as before. No condition. (Last of the texts of this proof.) -/
import Derived.Test.YtelklgdmhnkenaaMEXA
import Derived.Test.YtelklgdmhnkenaaMEXD
import Derived.Deep.Slices
import Derived.Deep.Fields
import Derived.ProofKit
import Derived.OpenShut
import Derived.ChangeOld
import Derived.SizedLaws
import Derived.Test.YtelklgdmhnkenaaRows
import Derived.WalkKit
import Derived.Below
set_option linter.unusedVariables false
set_option linter.unusedSimpArgs false
open Go.RowKit Go.Proofs.YtelklgdmhnkenaaW.PrintWords Go.Proofs.YtelklgdmhnkenaaW.PrintLast Go.Proofs.YtelklgdmhnkenaaW.PrintMore
namespace Go.Proofs.Ytelklgdmhnkenaa.U
attribute [local go_sem] max2_int min2_int max_two min_two max_three min_three max_four min_four
def pylonlaw28_awake.f (k : Nat)  : Option (Bool) := (pylonlaw28_ex.f).bind fun t745 => ((some (([true, true] : List Bool) : List Bool)).bind fun y748 => ((energy_Range.f k t745 y748).bind fun bt751 => ((energy_LeastCost.f k t745 y748 1).bind fun bt754 => ((energy_LeastCost.f k t745 y748 16).bind fun bt756 => ((energy_LeastCost.f k t745 y748 (-1)).bind fun bt758 => (if bt751.1 = 2 then (if bt751.2.1 = 15 then (if bt751.2.2 = 0 then ((pylonlaw28_gives.f k t745 y748 7 9 (([5, 2] : List Int))).bind fun t763 => (if t763 = true then ((pylonlaw28_gives.f k t745 y748 9 14 (([5, 4] : List Int))).bind fun t767 => (if t767 = true then ((pylonlaw28_gives.f k t745 (([false, true] : List Bool)) 4 9 (([0, 4] : List Int))).bind fun t774 => (if t774 = true then (if bt754.2 = 8 then (if bt756.2 = 8 then (some (bt758.2 == 1)) else (none)) else (none)) else (none))) else (none))) else (none))) else (none)) else (none)) else (none)))))))
set_option maxHeartbeats 8000000 in
set_option maxRecDepth 100000 in
theorem pylonlaw28_awake.calls (k : Nat)  (r : Bool) (w : World) (h : pylonlaw28_awake.f k  = some r) :
  Calls Try.prog 30 #[] w fun e w' => e = .returned (.bool r) ∧ Below w.heap.size w w' := by
 have HB := Aside0.mk (Below.refl w.heap.size w)
 have H : ((pylonlaw28_ex.f).bind fun t745 => ((some (([true, true] : List Bool) : List Bool)).bind fun y748 => ((energy_Range.f k t745 y748).bind fun bt751 => ((energy_LeastCost.f k t745 y748 1).bind fun bt754 => ((energy_LeastCost.f k t745 y748 16).bind fun bt756 => ((energy_LeastCost.f k t745 y748 (-1)).bind fun bt758 => (if bt751.1 = 2 then (if bt751.2.1 = 15 then (if bt751.2.2 = 0 then ((pylonlaw28_gives.f k t745 y748 7 9 (([5, 2] : List Int))).bind fun t763 => (if t763 = true then ((pylonlaw28_gives.f k t745 y748 9 14 (([5, 4] : List Int))).bind fun t767 => (if t767 = true then ((pylonlaw28_gives.f k t745 (([false, true] : List Bool)) 4 9 (([0, 4] : List Int))).bind fun t774 => (if t774 = true then (if bt754.2 = 8 then (if bt756.2 = 8 then (some (bt758.2 == 1)) else (none)) else (none)) else (none))) else (none))) else (none))) else (none)) else (none)) else (none)))))))) = some r := h
 clear h
 replace H := Option.bind_eq_some_iff.mp H
 obtain ⟨t745, A10, H⟩ := H
 replace H : ((some (([true, true] : List Bool) : List Bool)).bind fun y748 => ((energy_Range.f k t745 y748).bind fun bt751 => ((energy_LeastCost.f k t745 y748 1).bind fun bt754 => ((energy_LeastCost.f k t745 y748 16).bind fun bt756 => ((energy_LeastCost.f k t745 y748 (-1)).bind fun bt758 => (if bt751.1 = 2 then (if bt751.2.1 = 15 then (if bt751.2.2 = 0 then ((pylonlaw28_gives.f k t745 y748 7 9 (([5, 2] : List Int))).bind fun t763 => (if t763 = true then ((pylonlaw28_gives.f k t745 y748 9 14 (([5, 4] : List Int))).bind fun t767 => (if t767 = true then ((pylonlaw28_gives.f k t745 (([false, true] : List Bool)) 4 9 (([0, 4] : List Int))).bind fun t774 => (if t774 = true then (if bt754.2 = 8 then (if bt756.2 = 8 then (some (bt758.2 == 1)) else (none)) else (none)) else (none))) else (none))) else (none))) else (none)) else (none)) else (none))))))) = some r := H
 have A1 := Aside0.mk A10
 clear A10
 obtain ⟨y748, hy748⟩ : ∃ y_ : List Bool, y_ = (([true, true] : List Bool)) := ⟨_, rfl⟩
 replace H : ((energy_Range.f k t745 y748).bind fun bt751 => ((energy_LeastCost.f k t745 y748 1).bind fun bt754 => ((energy_LeastCost.f k t745 y748 16).bind fun bt756 => ((energy_LeastCost.f k t745 y748 (-1)).bind fun bt758 => (if bt751.1 = 2 then (if bt751.2.1 = 15 then (if bt751.2.2 = 0 then ((pylonlaw28_gives.f k t745 y748 7 9 (([5, 2] : List Int))).bind fun t763 => (if t763 = true then ((pylonlaw28_gives.f k t745 y748 9 14 (([5, 4] : List Int))).bind fun t767 => (if t767 = true then ((pylonlaw28_gives.f k t745 (([false, true] : List Bool)) 4 9 (([0, 4] : List Int))).bind fun t774 => (if t774 = true then (if bt754.2 = 8 then (if bt756.2 = 8 then (some (bt758.2 == 1)) else (none)) else (none)) else (none))) else (none))) else (none))) else (none)) else (none)) else (none)))))) = some r := by first | (rw [hy748]; with_reducible exact H) | (have H2_ := (Option.bind_some _ _).symm.trans H; rw [hy748]; with_reducible exact H2_) | (have H2_ := (Option.bind_some _ _).symm.trans H; with_reducible exact H2_) | with_reducible exact H | (rw [hy748]; exact H) | exact H
 have Ny748 := Aside0.mk hy748
 clear hy748
 replace H := Option.bind_eq_some_iff.mp H
 obtain ⟨⟨t751, t752, t753⟩, A20, H⟩ := H
 replace H : ((energy_LeastCost.f k t745 y748 1).bind fun bt754 => ((energy_LeastCost.f k t745 y748 16).bind fun bt756 => ((energy_LeastCost.f k t745 y748 (-1)).bind fun bt758 => (if t751 = 2 then (if t752 = 15 then (if t753 = 0 then ((pylonlaw28_gives.f k t745 y748 7 9 (([5, 2] : List Int))).bind fun t763 => (if t763 = true then ((pylonlaw28_gives.f k t745 y748 9 14 (([5, 4] : List Int))).bind fun t767 => (if t767 = true then ((pylonlaw28_gives.f k t745 (([false, true] : List Bool)) 4 9 (([0, 4] : List Int))).bind fun t774 => (if t774 = true then (if bt754.2 = 8 then (if bt756.2 = 8 then (some (bt758.2 == 1)) else (none)) else (none)) else (none))) else (none))) else (none))) else (none)) else (none)) else (none))))) = some r := H
 have A2 := Aside0.mk A20
 clear A20
 replace H := Option.bind_eq_some_iff.mp H
 obtain ⟨⟨t754, t755⟩, A30, H⟩ := H
 replace H : ((energy_LeastCost.f k t745 y748 16).bind fun bt756 => ((energy_LeastCost.f k t745 y748 (-1)).bind fun bt758 => (if t751 = 2 then (if t752 = 15 then (if t753 = 0 then ((pylonlaw28_gives.f k t745 y748 7 9 (([5, 2] : List Int))).bind fun t763 => (if t763 = true then ((pylonlaw28_gives.f k t745 y748 9 14 (([5, 4] : List Int))).bind fun t767 => (if t767 = true then ((pylonlaw28_gives.f k t745 (([false, true] : List Bool)) 4 9 (([0, 4] : List Int))).bind fun t774 => (if t774 = true then (if t755 = 8 then (if bt756.2 = 8 then (some (bt758.2 == 1)) else (none)) else (none)) else (none))) else (none))) else (none))) else (none)) else (none)) else (none)))) = some r := H
 have A3 := Aside0.mk A30
 clear A30
 replace H := Option.bind_eq_some_iff.mp H
 obtain ⟨⟨t756, t757⟩, A40, H⟩ := H
 replace H : ((energy_LeastCost.f k t745 y748 (-1)).bind fun bt758 => (if t751 = 2 then (if t752 = 15 then (if t753 = 0 then ((pylonlaw28_gives.f k t745 y748 7 9 (([5, 2] : List Int))).bind fun t763 => (if t763 = true then ((pylonlaw28_gives.f k t745 y748 9 14 (([5, 4] : List Int))).bind fun t767 => (if t767 = true then ((pylonlaw28_gives.f k t745 (([false, true] : List Bool)) 4 9 (([0, 4] : List Int))).bind fun t774 => (if t774 = true then (if t755 = 8 then (if t757 = 8 then (some (bt758.2 == 1)) else (none)) else (none)) else (none))) else (none))) else (none))) else (none)) else (none)) else (none))) = some r := H
 have A4 := Aside0.mk A40
 clear A40
 replace H := Option.bind_eq_some_iff.mp H
 obtain ⟨⟨t758, t759⟩, A50, H⟩ := H
 replace H : (if t751 = 2 then (if t752 = 15 then (if t753 = 0 then ((pylonlaw28_gives.f k t745 y748 7 9 (([5, 2] : List Int))).bind fun t763 => (if t763 = true then ((pylonlaw28_gives.f k t745 y748 9 14 (([5, 4] : List Int))).bind fun t767 => (if t767 = true then ((pylonlaw28_gives.f k t745 (([false, true] : List Bool)) 4 9 (([0, 4] : List Int))).bind fun t774 => (if t774 = true then (if t755 = 8 then (if t757 = 8 then (some (t759 == 1)) else (none)) else (none)) else (none))) else (none))) else (none))) else (none)) else (none)) else (none)) = some r := H
 have A5 := Aside0.mk A50
 clear A50
 by_cases c6 : t751 = 2
 ·rw [if_pos c6] at H
  have c6b0 : (t751 == 2) = true := beq_iff_eq.mpr c6
  clear c6
  by_cases c7 : t752 = 15
  ·rw [if_pos c7] at H
   have c7b0 : (t752 == 15) = true := beq_iff_eq.mpr c7
   clear c7
   by_cases c8 : t753 = 0
   ·rw [if_pos c8] at H
    have c8b0 : (t753 == 0) = true := beq_iff_eq.mpr c8
    clear c8
    obtain ⟨y760, hy760⟩ : ∃ y_ : List Int, y_ = (([5, 2] : List Int)) := ⟨_, rfl⟩
    replace H : ((pylonlaw28_gives.f k t745 y748 7 9 y760).bind fun t763 => (if t763 = true then ((pylonlaw28_gives.f k t745 y748 9 14 (([5, 4] : List Int))).bind fun t767 => (if t767 = true then ((pylonlaw28_gives.f k t745 (([false, true] : List Bool)) 4 9 (([0, 4] : List Int))).bind fun t774 => (if t774 = true then (if t755 = 8 then (if t757 = 8 then (some (t759 == 1)) else (none)) else (none)) else (none))) else (none))) else (none))) = some r := by first | (rw [hy760]; with_reducible exact H) | (have H2_ := (Option.bind_some _ _).symm.trans H; rw [hy760]; with_reducible exact H2_) | (have H2_ := (Option.bind_some _ _).symm.trans H; with_reducible exact H2_) | with_reducible exact H | (rw [hy760]; exact H) | exact H
    have Ny760 := Aside0.mk hy760
    clear hy760
    replace H := Option.bind_eq_some_iff.mp H
    obtain ⟨t763, A90, H⟩ := H
    replace H : (if t763 = true then ((pylonlaw28_gives.f k t745 y748 9 14 (([5, 4] : List Int))).bind fun t767 => (if t767 = true then ((pylonlaw28_gives.f k t745 (([false, true] : List Bool)) 4 9 (([0, 4] : List Int))).bind fun t774 => (if t774 = true then (if t755 = 8 then (if t757 = 8 then (some (t759 == 1)) else (none)) else (none)) else (none))) else (none))) else (none)) = some r := H
    have A9 := Aside0.mk A90
    clear A90
    by_cases c10 : t763 = true
    ·subst c10
     have H1 : ((pylonlaw28_gives.f k t745 y748 9 14 (([5, 4] : List Int))).bind fun t767 => (if t767 = true then ((pylonlaw28_gives.f k t745 (([false, true] : List Bool)) 4 9 (([0, 4] : List Int))).bind fun t774 => (if t774 = true then (if t755 = 8 then (if t757 = 8 then (some (t759 == 1)) else (none)) else (none)) else (none))) else (none))) = some r := by rw [if_pos rfl] at H; exact H
     clear H
     have H := H1
     clear H1
     obtain ⟨y764, hy764⟩ : ∃ y_ : List Int, y_ = (([5, 4] : List Int)) := ⟨_, rfl⟩
     replace H : ((pylonlaw28_gives.f k t745 y748 9 14 y764).bind fun t767 => (if t767 = true then ((pylonlaw28_gives.f k t745 (([false, true] : List Bool)) 4 9 (([0, 4] : List Int))).bind fun t774 => (if t774 = true then (if t755 = 8 then (if t757 = 8 then (some (t759 == 1)) else (none)) else (none)) else (none))) else (none))) = some r := by first | (rw [hy764]; with_reducible exact H) | (have H2_ := (Option.bind_some _ _).symm.trans H; rw [hy764]; with_reducible exact H2_) | (have H2_ := (Option.bind_some _ _).symm.trans H; with_reducible exact H2_) | with_reducible exact H | (rw [hy764]; exact H) | exact H
     have Ny764 := Aside0.mk hy764
     clear hy764
     replace H := Option.bind_eq_some_iff.mp H
     obtain ⟨t767, A110, H⟩ := H
     replace H : (if t767 = true then ((pylonlaw28_gives.f k t745 (([false, true] : List Bool)) 4 9 (([0, 4] : List Int))).bind fun t774 => (if t774 = true then (if t755 = 8 then (if t757 = 8 then (some (t759 == 1)) else (none)) else (none)) else (none))) else (none)) = some r := H
     have A11 := Aside0.mk A110
     clear A110
     by_cases c12 : t767 = true
     ·subst c12
      have H1 : ((pylonlaw28_gives.f k t745 (([false, true] : List Bool)) 4 9 (([0, 4] : List Int))).bind fun t774 => (if t774 = true then (if t755 = 8 then (if t757 = 8 then (some (t759 == 1)) else (none)) else (none)) else (none))) = some r := by rw [if_pos rfl] at H; exact H
      clear H
      have H := H1
      clear H1
      obtain ⟨y768, hy768⟩ : ∃ y_ : List Bool, y_ = (([false, true] : List Bool)) := ⟨_, rfl⟩
      replace H : ((pylonlaw28_gives.f k t745 y768 4 9 (([0, 4] : List Int))).bind fun t774 => (if t774 = true then (if t755 = 8 then (if t757 = 8 then (some (t759 == 1)) else (none)) else (none)) else (none))) = some r := by first | (rw [hy768]; with_reducible exact H) | (have H2_ := (Option.bind_some _ _).symm.trans H; rw [hy768]; with_reducible exact H2_) | (have H2_ := (Option.bind_some _ _).symm.trans H; with_reducible exact H2_) | with_reducible exact H | (rw [hy768]; exact H) | exact H
      have Ny768 := Aside0.mk hy768
      clear hy768
      obtain ⟨y771, hy771⟩ : ∃ y_ : List Int, y_ = (([0, 4] : List Int)) := ⟨_, rfl⟩
      replace H : ((pylonlaw28_gives.f k t745 y768 4 9 y771).bind fun t774 => (if t774 = true then (if t755 = 8 then (if t757 = 8 then (some (t759 == 1)) else (none)) else (none)) else (none))) = some r := by first | (rw [hy771]; with_reducible exact H) | (have H2_ := (Option.bind_some _ _).symm.trans H; rw [hy771]; with_reducible exact H2_) | (have H2_ := (Option.bind_some _ _).symm.trans H; with_reducible exact H2_) | with_reducible exact H | (rw [hy771]; exact H) | exact H
      have Ny771 := Aside0.mk hy771
      clear hy771
      replace H := Option.bind_eq_some_iff.mp H
      obtain ⟨t774, A130, H⟩ := H
      replace H : (if t774 = true then (if t755 = 8 then (if t757 = 8 then (some (t759 == 1)) else (none)) else (none)) else (none)) = some r := H
      have A13 := Aside0.mk A130
      clear A130
      by_cases c14 : t774 = true
      ·subst c14
       have H1 : (if t755 = 8 then (if t757 = 8 then (some (t759 == 1)) else (none)) else (none)) = some r := by rw [if_pos rfl] at H; exact H
       clear H
       have H := H1
       clear H1
       by_cases c15 : t755 = 8
       ·rw [if_pos c15] at H
        have c15b0 : (t755 == 8) = true := beq_iff_eq.mpr c15
        clear c15
        by_cases c16 : t757 = 8
        ·rw [if_pos c16] at H
         have c16b0 : (t757 == 8) = true := beq_iff_eq.mpr c16
         clear c16
         obtain rfl := Option.some.inj H
         go_enter Try.func30, Try.ntmps30
         go_wp2_with (first | ((with_reducible refine gate_callee (f := 51) rfl ?_); refine goesL_ (some 12) rfl rfl Try.func51 m_13 rfl #[] rfl m_2 ?_; (with_reducible refine (pylonlaw28_ex.calls  t745 _ A1.out).mono ?_); rintro e w17 ⟨v746, rfl, ho0, hb⟩; refine ⟨_, rfl, ?_⟩; have HO747 := Aside0.mk (Kd.V_lower (Kd.V_mono (ok' := fun k_ => True) ho0 (fun k_ hk_ => trivial)) (below_size m_1)); replace HB := Aside0.mk (below_step m_1 hb); clear hb; (try clear ho0)) | ((with_reducible refine gate_dst (N := 13) rfl ?_); (try (refine gate_guard (by rfl) ?_; dsimp only)); refine Kd.R_lit Kd.bool _ 4 ?hg (N := 13) ?hd (xs := ([true, true] : List Bool)) (inner := [.bool true, .bool true]) (ok := fun _ => True) (okp := fun _ => True) ?hr ?hp (fun _ hk => hk) trivial (Below.refl _ _) (Nat.le_refl _) (by simp) ?_; (case hd => rfl); (case hg => rfl); (case hr => exact hr_); (case hp => exact (Reps.one (show Kd.M Kd.bool _ _ _ true [.bool true] from rfl) (Reps.one (show Kd.M Kd.bool _ _ _ true [.bool true] from rfl) (Reps.none _ _)))); intro v749 w18 ho19 hb hg_ hnew_; clear hg_ hnew_; (first | rw [← Ny748.out] at ho19 | (simp only [Int.reduceToNat] at ho19; rw [← Ny748.out] at ho19)); have HO750 := Aside0.mk (Kd.R_lower ho19 (below_size m_1)); replace HO747 := Aside0.mk (Kd.V_elder' (vA_ HO747.out) (Kd.R_base ho19) hb); replace HB := Aside0.mk (below_step m_1 hb); clear hb ho19; obtain ⟨Ao20, co20, eo20⟩ := Kd.V_slice HO747.out; subst eo20; obtain ⟨Ao21, co21, eo21⟩ := Kd.R_slice HO750.out; subst eo21) | ((with_reducible refine gate_callee (f := 52) rfl ?_); refine goesL_ (some 17) rfl rfl Try.func52 m_13 rfl #[.slice Ao20 t745.length co20, .slice Ao21 y748.length co21] rfl m_2 ?_; (with_reducible refine (energy_Range.calls k _ _ t745 _ _ y748 t751 t752 t753 _ ?side1 ?side2 ?side3 ?side4 A2.out).mono ?_); (case side1 => exact cA_ (Kd.V_reads' HO747.out).2.2); (case side2 => exact (Kd.V_reads' HO747.out).2.1); (case side3 => exact cA_ (Kd.R_reads' HO750.out).2.2); (case side4 => exact (Kd.R_reads' HO750.out).2.1); rintro e w22 ⟨rfl, hb⟩; refine ⟨_, rfl, ?_⟩; replace HO747 := vB_ HO747 hb; replace HO750 := rB_ HO750 hb; replace HB := Aside0.mk (below_step m_1 hb); clear hb) | ((with_reducible refine gate_callee (f := 33) rfl ?_); refine goesL_ (some 24) rfl rfl Try.func33 m_13 rfl #[.slice Ao20 t745.length co20, .slice Ao21 y748.length co21, .int .i64 1] rfl m_2 ?_; (with_reducible refine (energy_LeastCost.calls k _ _ t745 _ _ y748 1 t754 t755 _ ?side1 ?side2 ?side3 ?side4 A3.out).mono ?_); (case side1 => exact cA_ (Kd.V_reads' HO747.out).2.2); (case side2 => exact (Kd.V_reads' HO747.out).2.1); (case side3 => exact cA_ (Kd.R_reads' HO750.out).2.2); (case side4 => exact (Kd.R_reads' HO750.out).2.1); rintro e w23 ⟨rfl, hb⟩; refine ⟨_, rfl, ?_⟩; replace HO747 := vB_ HO747 hb; replace HO750 := rB_ HO750 hb; replace HB := Aside0.mk (below_step m_1 hb); clear hb) | ((with_reducible refine gate_callee (f := 33) rfl ?_); refine goesL_ (some 30) rfl rfl Try.func33 m_13 rfl #[.slice Ao20 t745.length co20, .slice Ao21 y748.length co21, .int .i64 16] rfl m_2 ?_; (with_reducible refine (energy_LeastCost.calls k _ _ t745 _ _ y748 16 t756 t757 _ ?side1 ?side2 ?side3 ?side4 A4.out).mono ?_); (case side1 => exact cA_ (Kd.V_reads' HO747.out).2.2); (case side2 => exact (Kd.V_reads' HO747.out).2.1); (case side3 => exact cA_ (Kd.R_reads' HO750.out).2.2); (case side4 => exact (Kd.R_reads' HO750.out).2.1); rintro e w24 ⟨rfl, hb⟩; refine ⟨_, rfl, ?_⟩; replace HO747 := vB_ HO747 hb; replace HO750 := rB_ HO750 hb; replace HB := Aside0.mk (below_step m_1 hb); clear hb) | ((with_reducible refine gate_callee (f := 33) rfl ?_); refine goesL_ (some 36) rfl rfl Try.func33 m_13 rfl #[.slice Ao20 t745.length co20, .slice Ao21 y748.length co21, .int .i64 (-1)] rfl m_2 ?_; (with_reducible refine (energy_LeastCost.calls k _ _ t745 _ _ y748 (-1) t758 t759 _ ?side1 ?side2 ?side3 ?side4 A5.out).mono ?_); (case side1 => exact cA_ (Kd.V_reads' HO747.out).2.2); (case side2 => exact (Kd.V_reads' HO747.out).2.1); (case side3 => exact cA_ (Kd.R_reads' HO750.out).2.2); (case side4 => exact (Kd.R_reads' HO750.out).2.1); rintro e w25 ⟨rfl, hb⟩; refine ⟨_, rfl, ?_⟩; replace HO747 := vB_ HO747 hb; replace HO750 := rB_ HO750 hb; replace HB := Aside0.mk (below_step m_1 hb); clear hb) | ((with_reducible refine gate_dst (N := 52) rfl ?_); (try (refine gate_guard (by rfl) ?_; dsimp only)); refine Kd.R_lit (Kd.int .i64) _ 2 ?hg (N := 52) ?hd (xs := ([5, 2] : List Int)) (inner := [.int .i64 5, .int .i64 2]) (ok := fun _ => True) (okp := fun _ => True) ?hr ?hp (fun _ hk => hk) trivial (Below.refl _ _) (Nat.le_refl _) (by simp) ?_; (case hd => rfl); (case hg => rfl); (case hr => exact hr_); (case hp => exact (Reps.one (show Kd.M (Kd.int .i64) _ _ _ 5 [.int .i64 5] from rfl) (Reps.one (show Kd.M (Kd.int .i64) _ _ _ 2 [.int .i64 2] from rfl) (Reps.none _ _)))); intro v761 w26 ho27 hb hg_ hnew_; clear hg_ hnew_; (first | rw [← Ny760.out] at ho27 | (simp only [Int.reduceToNat] at ho27; rw [← Ny760.out] at ho27)); have HO762 := Aside0.mk (Kd.R_lower ho27 (below_size m_1)); replace HO747 := Aside0.mk (Kd.V_elder' (vA_ HO747.out) (Kd.R_base ho27) hb); replace HO750 := rB_ HO750 hb; replace HB := Aside0.mk (below_step m_1 hb); clear hb ho27; obtain ⟨Ao28, co28, eo28⟩ := Kd.R_slice HO762.out; subst eo28) | (go_at_call 53; (with_reducible refine (pylonlaw28_gives.calls k _ _ t745 _ _ y748 7 9 _ _ y760 true _ ?side1 ?side2 ?side3 ?side4 ?side5 ?side6 A9.out).mono ?_); (case side1 => exact cA_ (Kd.V_reads' HO747.out).2.2); (case side2 => exact (Kd.V_reads' HO747.out).2.1); (case side3 => exact cA_ (Kd.R_reads' HO750.out).2.2); (case side4 => exact (Kd.R_reads' HO750.out).2.1); (case side5 => exact cA_ (Kd.R_reads' HO762.out).2.2); (case side6 => exact (Kd.R_reads' HO762.out).2.1); rintro e w29 ⟨rfl, hb⟩; replace HO747 := vB_ HO747 hb; replace HO750 := rB_ HO750 hb; replace HO762 := rB_ HO762 hb; replace HB := Aside0.mk (below_step m_1 hb); clear hb; (try clear hk)) | ((with_reducible refine gate_dst (N := 58) rfl ?_); (try (refine gate_guard (by rfl) ?_; dsimp only)); refine Kd.R_lit (Kd.int .i64) _ 2 ?hg (N := 58) ?hd (xs := ([5, 4] : List Int)) (inner := [.int .i64 5, .int .i64 4]) (ok := fun _ => True) (okp := fun _ => True) ?hr ?hp (fun _ hk => hk) trivial (Below.refl _ _) (Nat.le_refl _) (by simp) ?_; (case hd => rfl); (case hg => rfl); (case hr => exact hr_); (case hp => exact (Reps.one (show Kd.M (Kd.int .i64) _ _ _ 5 [.int .i64 5] from rfl) (Reps.one (show Kd.M (Kd.int .i64) _ _ _ 4 [.int .i64 4] from rfl) (Reps.none _ _)))); intro v765 w30 ho31 hb hg_ hnew_; clear hg_ hnew_; (first | rw [← Ny764.out] at ho31 | (simp only [Int.reduceToNat] at ho31; rw [← Ny764.out] at ho31)); have HO766 := Aside0.mk (Kd.R_lower (Kd.R_new' ho31 (Kd.R_lt (rA_ HO762.out))) (below_size m_1)); replace HO747 := Aside0.mk (Kd.V_elder' (vA_ HO747.out) (Kd.R_base ho31) hb); replace HO750 := rB_ HO750 hb; replace HO762 := Aside0.mk (Kd.R_elder' (rA_ HO762.out) (Kd.R_base ho31) hb); replace HB := Aside0.mk (below_step m_1 hb); clear hb ho31; obtain ⟨Ao32, co32, eo32⟩ := Kd.R_slice HO766.out; subst eo32) | (go_at_call 53; (with_reducible refine (pylonlaw28_gives.calls k _ _ t745 _ _ y748 9 14 _ _ y764 true _ ?side1 ?side2 ?side3 ?side4 ?side5 ?side6 A11.out).mono ?_); (case side1 => exact cA_ (Kd.V_reads' HO747.out).2.2); (case side2 => exact (Kd.V_reads' HO747.out).2.1); (case side3 => exact cA_ (Kd.R_reads' HO750.out).2.2); (case side4 => exact (Kd.R_reads' HO750.out).2.1); (case side5 => exact cA_ (Kd.R_reads' HO766.out).2.2); (case side6 => exact (Kd.R_reads' HO766.out).2.1); rintro e w33 ⟨rfl, hb⟩; replace HO747 := vB_ HO747 hb; replace HO750 := rB_ HO750 hb; replace HO762 := rB_ HO762 hb; replace HO766 := rB_ HO766 hb; replace HB := Aside0.mk (below_step m_1 hb); clear hb; (try clear hk)) | ((with_reducible refine gate_dst (N := 63) rfl ?_); (try (refine gate_guard (by rfl) ?_; dsimp only)); refine Kd.R_lit Kd.bool _ 4 ?hg (N := 63) ?hd (xs := ([false, true] : List Bool)) (inner := [.bool false, .bool true]) (ok := fun _ => True) (okp := fun _ => True) ?hr ?hp (fun _ hk => hk) trivial (Below.refl _ _) (Nat.le_refl _) (by simp) ?_; (case hd => rfl); (case hg => rfl); (case hr => exact hr_); (case hp => exact (Reps.one (show Kd.M Kd.bool _ _ _ false [.bool false] from rfl) (Reps.one (show Kd.M Kd.bool _ _ _ true [.bool true] from rfl) (Reps.none _ _)))); intro v769 w34 ho35 hb hg_ hnew_; clear hg_ hnew_; (first | rw [← Ny768.out] at ho35 | (simp only [Int.reduceToNat] at ho35; rw [← Ny768.out] at ho35)); have HO770 := Aside0.mk (Kd.R_lower (Kd.R_new' ho35 (Kd.R_lt (rA_ HO750.out))) (below_size m_1)); replace HO747 := Aside0.mk (Kd.V_elder' (vA_ HO747.out) (Kd.R_base ho35) hb); replace HO750 := Aside0.mk (Kd.R_elder' (rA_ HO750.out) (Kd.R_base ho35) hb); replace HO762 := rB_ HO762 hb; replace HO766 := rB_ HO766 hb; replace HB := Aside0.mk (below_step m_1 hb); clear hb ho35) | ((with_reducible refine gate_dst (N := 64) rfl ?_); (try (refine gate_guard (by rfl) ?_; dsimp only)); refine Kd.R_lit (Kd.int .i64) _ 2 ?hg (N := 64) ?hd (xs := ([0, 4] : List Int)) (inner := [.int .i64 0, .int .i64 4]) (ok := fun _ => True) (okp := fun _ => True) ?hr ?hp (fun _ hk => hk) trivial (Below.refl _ _) (Nat.le_refl _) (by simp) ?_; (case hd => rfl); (case hg => rfl); (case hr => exact hr_); (case hp => exact (Reps.one (show Kd.M (Kd.int .i64) _ _ _ 0 [.int .i64 0] from rfl) (Reps.one (show Kd.M (Kd.int .i64) _ _ _ 4 [.int .i64 4] from rfl) (Reps.none _ _)))); intro v772 w36 ho37 hb hg_ hnew_; clear hg_ hnew_; (first | rw [← Ny771.out] at ho37 | (simp only [Int.reduceToNat] at ho37; rw [← Ny771.out] at ho37)); have HO773 := Aside0.mk (Kd.R_lower (Kd.R_new' (Kd.R_new' ho37 (Kd.R_lt (rA_ HO762.out))) (Kd.R_lt (rA_ HO766.out))) (below_size m_1)); replace HO747 := Aside0.mk (Kd.V_elder' (vA_ HO747.out) (Kd.R_base ho37) hb); replace HO750 := rB_ HO750 hb; replace HO762 := Aside0.mk (Kd.R_elder' (rA_ HO762.out) (Kd.R_base ho37) hb); replace HO766 := Aside0.mk (Kd.R_elder' (rA_ HO766.out) (Kd.R_base ho37) hb); replace HO770 := rB_ HO770 hb; replace HB := Aside0.mk (below_step m_1 hb); clear hb ho37; obtain ⟨Ao38, co38, eo38⟩ := Kd.R_slice HO770.out; subst eo38; obtain ⟨Ao39, co39, eo39⟩ := Kd.R_slice HO773.out; subst eo39) | (go_at_call 53; (with_reducible refine (pylonlaw28_gives.calls k _ _ t745 _ _ y768 4 9 _ _ y771 true _ ?side1 ?side2 ?side3 ?side4 ?side5 ?side6 A13.out).mono ?_); (case side1 => exact cA_ (Kd.V_reads' HO747.out).2.2); (case side2 => exact (Kd.V_reads' HO747.out).2.1); (case side3 => exact cA_ (Kd.R_reads' HO770.out).2.2); (case side4 => exact (Kd.R_reads' HO770.out).2.1); (case side5 => exact cA_ (Kd.R_reads' HO773.out).2.2); (case side6 => exact (Kd.R_reads' HO773.out).2.1); rintro e w40 ⟨rfl, hb⟩; replace HB := Aside0.mk (below_step m_1 hb); clear hb; (try clear hk)))
         go_ret
         exact ⟨m_5, m_1⟩
        ·rw [if_neg c16] at H
         cases H
       ·rw [if_neg c15] at H
        cases H
      ·rw [if_neg c14] at H
       cases H
     ·rw [if_neg c12] at H
      cases H
    ·rw [if_neg c10] at H
     cases H
   ·rw [if_neg c8] at H
    cases H
  ·rw [if_neg c7] at H
   cases H
 ·rw [if_neg c6] at H
  cases H
theorem ck1 : ckF exU [true, true] = 0 := by simp [ckF, chk, ckU, checkF, exU, wrongF, wrongFrom, cutB, afterB, inB, maxF, qsum, wrap64]
theorem ck2 : ckF exU [false, true] = 0 := by simp [ckF, chk, ckU, checkF, exU, wrongF, wrongFrom, cutB, afterB, inB, maxF, qsum, wrap64]
theorem pc1 : piecesOf 0 exU [true, true] = [(0, 3, 1), (0, 4, 3), (1, 3, 2), (1, 3, 3)] := by decide
theorem pc2 : piecesOf 0 exU [false, true] = [(1, 3, 2), (1, 3, 3)] := by decide
theorem ex_good : ∀ u ∈ exU, goodU u = true := by decide
theorem sr1 : srtP (piecesOf 0 exU [true, true]) = [(0, 3, 1), (1, 3, 2), (1, 3, 3), (0, 4, 3)] := by
  refine (srt_unique (pieces_pre 0 exU [true, true] ex_good) (rs := [(0, 3, 1), (1, 3, 2), (1, 3, 3), (0, 4, 3)]) ?_ (by decide)).symm
  rw [pc1]
  decide
theorem sr2 : srtP (piecesOf 0 exU [false, true]) = [(1, 3, 2), (1, 3, 3)] := by
  refine (srt_unique (pieces_pre 0 exU [false, true] ex_good) (rs := [(1, 3, 2), (1, 3, 3)]) ?_ (by decide)).symm
  rw [pc2]
theorem al7 : allocR exU [true, true] 7 = ([5, 2], 0) := by
  unfold allocR allocRow
  rw [if_pos ck1, sr1]
  decide
theorem al9 : allocR exU [true, true] 9 = ([5, 4], 0) := by
  unfold allocR allocRow
  rw [if_pos ck1, sr1]
  decide
theorem al4 : allocR exU [false, true] 4 = ([0, 4], 0) := by
  unfold allocR allocRow
  rw [if_pos ck2, sr2]
  decide
theorem al1 : allocR exU [true, true] 1 = ([], 8) := by
  unfold allocR
  rw [if_pos ck1]
  decide
theorem al16 : allocR exU [true, true] 16 = ([], 8) := by
  unfold allocR
  rw [if_pos ck1]
  decide
theorem alm : allocR exU [true, true] (-1) = ([], 1) := by
  unfold allocR
  rw [if_pos ck1]
  decide
theorem le_of (l1 : List Bool) (d : Int) (r : List Int) (c : Int) (h : allocR exU l1 d = (r, 0)) (hc : costR exU l1 r = (c, 0)) : leastR exU l1 d = (c, 0) := by
  unfold leastR
  rw [h, if_pos rfl, hc]
theorem same2 (a b : Int) : Evs (fun k => pylonref28_Same.f k [a, b] [a, b]) true := by
  refine ⟨3, fun k hk => ?_⟩
  obtain ⟨m, rfl⟩ : ∃ m, k = m + 3 := ⟨k - 3, by omega⟩
  simp [pylonref28_Same.f, pylonref28_Same.l0, YtelklgdmhnkenaaW.PrintWords.rd, wrap64]
theorem gives_f (l1 : List Bool) (d c a b : Int) (h : allocR exU l1 d = ([a, b], 0)) (hc : costR exU l1 [a, b] = (c, 0)) : Evs (fun k => pylonlaw28_gives.f k exU l1 d c [a, b]) true := by
  unfold pylonlaw28_gives.f
  have h1 := alloc_f exU l1 d
  have h2 := least_f exU l1 d
  have h3 := Cost_f exU l1 [a, b]
  rw [h] at h1
  rw [le_of l1 d _ c h hc] at h2
  rw [hc] at h3
  refine h1.bind (h2.bind (h3.bind ?_))
  simp only [if_true]
  exact (same2 a b).bind (Evs.const rfl)
theorem awake_f : Evs (fun k => pylonlaw28_awake.f k) true := by
  unfold pylonlaw28_awake.f pylonlaw28_ex.f
  simp only [Option.bind_some]
  have hr := Range_f exU [true, true]
  have e : rangeR exU [true, true] = (2, 15, 0) := by unfold rangeR; rw [if_pos ck1]; decide
  rw [e] at hr
  have l1 := least_f exU [true, true] 1
  have l2 := least_f exU [true, true] 16
  have l3 := least_f exU [true, true] (-1)
  have e1 : leastR exU [true, true] 1 = (0, 8) := by unfold leastR; rw [al1]; rfl
  have e2 : leastR exU [true, true] 16 = (0, 8) := by unfold leastR; rw [al16]; rfl
  have e3 : leastR exU [true, true] (-1) = (0, 1) := by unfold leastR; rw [alm]; rfl
  rw [e1] at l1
  rw [e2] at l2
  rw [e3] at l3
  refine hr.bind (l1.bind (l2.bind (l3.bind ?_)))
  simp only [if_true]
  refine (gives_f [true, true] 7 9 5 2 al7 (by unfold costR; rw [if_pos ck1]; decide)).bind ?_
  simp only [if_true]
  refine (gives_f [true, true] 9 14 5 4 al9 (by unfold costR; rw [if_pos ck1]; decide)).bind ?_
  simp only [if_true]
  refine (gives_f [false, true] 4 9 0 4 al4 (by unfold costR; rw [if_pos ck2]; decide)).bind ?_
  simp only [if_true]
  exact Evs.const rfl
end Go.Proofs.Ytelklgdmhnkenaa.U
namespace Go.Proofs.Ytelklgdmhnkenaa.U
attribute [local go_sem] max2_int min2_int max_two min_two max_three min_three max_four min_four
mutual
def pylonlaw28_Long.j0 : Nat → List (S24) → Bool → Option (Bool)
 | 0, _, _ => none
 | k + 1, x0, x13 => if x13 = true then (some true) else (pylonlaw28_Long.l0 k x0 0)
def pylonlaw28_Long.l0 : Nat → List (S24) → Int → Option (Bool)
 | 0, _, _ => none
 | k + 1, x0, x5 => if x5 < (x0.length : Int) then (if 0 ≤ x5 then (if (((rd_T24 x0 x5).f2).length : Int) > 20 then (some true) else (pylonlaw28_Long.l0 k x0 (wrap64 (x5 + 1)))) else (none)) else (some false)
end
def pylonlaw28_Long.f (k : Nat) (l0 : List (S24)) (l1 : List Bool) : Option (Bool) := if (l0.length : Int) > 30 then (pylonlaw28_Long.j0 k l0 true) else (pylonlaw28_Long.j0 k l0 (decide ((l1.length : Int) > 30)))
set_option maxHeartbeats 8000000 in
set_option maxRecDepth 100000 in
theorem pylonlaw28_Long.calls (k : Nat) (A0 : Option Addr) (c0 : Nat) (l0 : List (S24)) (A1 : Option Addr) (c1 : Nat) (l1 : List Bool) (r : Bool) (w : World) (hr0 : Kd.C k24 w A0 l0.length l0) (hc0 : l0.length ≤ c0) (hr1 : Kd.C Kd.bool w A1 l1.length l1) (hc1 : l1.length ≤ c1) (h : pylonlaw28_Long.f k l0 l1 = some r) :
  Calls Try.prog 29 #[.slice A0 l0.length c0, .slice A1 l1.length c1] w fun e w' => e = .returned (.bool r) ∧ Drawn0 w w' := by
 have HR0 := Aside0.mk hr0
 clear hr0 hc0
 clear hr1 hc1
 have H : (if (l0.length : Int) > 30 then (pylonlaw28_Long.j0 k l0 true) else (pylonlaw28_Long.j0 k l0 (decide ((l1.length : Int) > 30)))) = some r := h
 clear h
 have HC3 := Aside0.mk H
 clear H
 go_enter Try.func29, Try.ntmps29
 go_upto_region 1 with (fail)
 go_cut [13] (fun v13 wc => ∃ (kq : Nat) (x13_2 : Bool), v13 = .bool x13_2 ∧ Aside0 (pylonlaw28_Long.j0 kq l0 x13_2 = some r) ∧ Aside0 (kq ≤ k) ∧ Drawn0 w wc)
 case first =>
  have H := HC3.out
  clear HC3
  by_cases c4 : (l0.length : Int) > 30
  ·rw [if_pos c4] at H
   have c4b0 : decide (30 < (l0.length : Int)) = true := decide_eq_true c4
   have c4b1 : decide (30 < l0.length) = true := decide_eq_true (by omega)
   clear c4
   (first | rw [c4b0] | (simp only [i64_w, i32_w]; rw [c4b0]) | skip)
   have H' := Aside0.mk H
   clear H
   go_wp2
   go_meet
   case rel => exact ⟨_, (true), m_9, H', ⟨m_71⟩, m_28⟩
  ·rw [if_neg c4] at H
   have c4b0 : decide (30 < (l0.length : Int)) = false := decide_eq_false c4
   have c4b1 : decide (30 < l0.length) = false := decide_eq_false (by omega)
   clear c4
   (first | rw [c4b0] | (simp only [i64_w, i32_w]; rw [c4b0]) | skip)
   have H' := Aside0.mk H
   clear H
   go_wp2
   go_meet
   case rel => exact ⟨_, (decide ((l1.length : Int) > 30)), m_9, H', ⟨m_71⟩, m_28⟩
 case rest =>
  clear HC3
  (try clear c1); (try clear c2); (try clear p2); (try clear c4); (try clear c4b0); (try clear c4b1)
  obtain ⟨kq, x13_2, rfl, HA, HJ2, ⟨mc2, rfl⟩⟩ := hcut
  cases kq with
  | zero => exact absurd HA.out (by simp [pylonlaw28_Long.j0])
  | succ kj2 =>
   have H := HA.out
   clear HA
   simp only [pylonlaw28_Long.j0] at H
   by_cases c5 : x13_2 = true
   ·subst c5
    have H1 : (some true) = some r := by rw [if_pos rfl] at H; exact H
    clear H
    have H := H1
    clear H1
    obtain rfl := Option.some.inj H
    go_wp2
    go_ret
    exact ⟨m_9, m_28⟩
   ·replace c5 := Bool.eq_false_iff.mpr c5
    subst c5
    have H1 : (pylonlaw28_Long.l0 kj2 l0 0) = some r := by rw [if_neg (show ¬ (false = true) by decide)] at H; exact H
    clear H
    have H := H1
    clear H1
    have H' := Aside0.mk H
    clear H
    go_wp2
    go_loopg [5] kj2 (fun kq v5 w' => ∃ (x5_2 : Int), v5 = .int .i64 x5_2 ∧ Aside0 (pylonlaw28_Long.l0 kq l0 x5_2 = some r) ∧ Aside0 (kq ≤ kj2) ∧ Drawn0 w w')
    case atStart => exact ⟨(0), m_9, H', ⟨Nat.le_refl _⟩, m_28⟩
    case round =>
     clear H'
     (try clear c1); (try clear c2); (try clear p2); (try clear c4); (try clear c4b0); (try clear c4b1); (try clear c5); (try clear p2)
     obtain ⟨x5_2, rfl, HA, HK2, ⟨m2, rfl⟩⟩ := hrel
     cases gk with
     | zero => exact absurd HA.out (by simp [pylonlaw28_Long.l0])
     | succ k2 =>
      have H := HA.out
      clear HA
      simp only [pylonlaw28_Long.l0] at H
      by_cases c6 : x5_2 < (l0.length : Int)
      ·rw [if_pos c6] at H
       have c6b0 : decide (x5_2 < (l0.length : Int)) = true := decide_eq_true c6
       clear c6
       by_cases c7 : 0 ≤ x5_2
       ·rw [if_pos c7] at H
        have c7b0 : decide (0 ≤ x5_2) = true := decide_eq_true c7
        clear c7
        by_cases c8 : (((rd_T24 l0 x5_2).f2).length : Int) > 20
        ·rw [if_pos c8] at H
         have c8b0 : decide (20 < (((rd_T24 l0 x5_2).f2).length : Int)) = true := decide_eq_true c8
         clear c8
         obtain rfl := Option.some.inj H
         have p341 : 0 ≤ (x5_2 : Int) := of_decide_eq_true m_4
         have q341 : x5_2 < (l0.length : Int) := of_decide_eq_true m_4
         obtain ⟨ad341, A341_2, c341_2, e341, hx341_0, hx341_1, hx341_2, hx341_3, hx341_4, hx341_5, hx341_6, hx341_7, hx341_8, hl341_2, hi341_2⟩ := at_T24 HR0.out x5_2 p341 q341
         cases e341
         clear hi341_2 hl341_2
         replace p341 := eq_true p341
         replace q341 := eq_true q341
         go_wp2
         go_ret
         exact ⟨m_9, m_28⟩
        ·rw [if_neg c8] at H
         have c8b0 : decide (20 < (((rd_T24 l0 x5_2).f2).length : Int)) = false := decide_eq_false c8
         clear c8
         have H' := Aside0.mk H
         clear H
         have p341 : 0 ≤ (x5_2 : Int) := of_decide_eq_true m_4
         have q341 : x5_2 < (l0.length : Int) := of_decide_eq_true m_4
         obtain ⟨ad341, A341_2, c341_2, e341, hx341_0, hx341_1, hx341_2, hx341_3, hx341_4, hx341_5, hx341_6, hx341_7, hx341_8, hl341_2, hi341_2⟩ := at_T24 HR0.out x5_2 p341 q341
         cases e341
         clear hi341_2 hl341_2
         replace p341 := eq_true p341
         replace q341 := eq_true q341
         go_wp2
         go_roundg k2
         case measure => have := HJ2.out; have := HK2.out; omega
         case rel => exact ⟨(wrap64 (x5_2 + 1)), m_9, H', ⟨(by have := HJ2.out; have := HK2.out; omega)⟩, m_28⟩
       ·rw [if_neg c7] at H
        exact absurd H (by simp)
      ·rw [if_neg c6] at H
       have c6b0 : decide (x5_2 < (l0.length : Int)) = false := decide_eq_false c6
       clear c6
       obtain rfl := Option.some.inj H
       go_wp2
       go_ret
       exact ⟨m_9, m_28⟩
end Go.Proofs.Ytelklgdmhnkenaa.U
namespace Go.Proofs.Ytelklgdmhnkenaa.U
attribute [local go_sem] max2_int min2_int max_two min_two max_three min_three max_four min_four
theorem KR_0 : ∀ (i : Nat) (us : List S24) (rs : List Int), KR 1 (fun _ => 0) i us rs = sumP us rs
  | _, [], _ => by simp [KR, sumP]
  | _, _ :: _, [] => by simp [KR, sumP]
  | i, u :: us, r :: rs => by rw [KR, sumP, KR_0 (i + 1) us rs]; simp [KU]
theorem wok0 : Wok 1 (fun _ => 0) := ⟨by omega, fun _ _ _ _ _ => Int.le_refl _, fun _ _ _ _ _ _ => by omega⟩
def anyLong : List S24 → Bool
  | [] => false
  | u :: l => decide (20 < u.f2.length) || anyLong l
def longB (l0 : List S24) (l1 : List Bool) : Bool := decide (30 < l0.length) || decide (30 < l1.length) || anyLong l0
theorem long_loop (l0 : List S24) (hl : l0.length ≤ 30) (d : Nat) : ∀ i : Nat, l0.length - i = d → i ≤ l0.length → Evs (fun k => pylonlaw28_Long.l0 k l0 (i : Int)) (anyLong (l0.drop i)) := by
  induction d with
  | zero =>
    intro i hd hi
    obtain rfl : i = l0.length := by omega
    refine Evs.succ (Evs.all fun k => ?_)
    simp only [pylonlaw28_Long.l0]
    rw [if_neg (by omega)]
    simp [anyLong]
  | succ d ih =>
    intro i hd hi
    have hlt : i < l0.length := by omega
    have e1 := rd24 l0 i hlt
    have hd2 : l0.drop i = l0[i] :: l0.drop (i + 1) := List.drop_eq_getElem_cons hlt
    generalize l0[i] = u at e1 hd2
    have h := ih (i + 1) (by omega) (by omega)
    rw [hd2, anyLong]
    refine Evs.succ ?_
    simp only [pylonlaw28_Long.l0, if_pos (show (i : Int) < (l0.length : Int) by omega), if_pos (show (0 : Int) ≤ (i : Int) by omega), e1]
    by_cases c : 20 < u.f2.length
    · simp only [if_pos (show ((u.f2.length : Nat) : Int) > 20 by omega)]
      rw [decide_eq_true c]
      exact Evs.const rfl
    · simp only [if_neg (show ¬ ((u.f2.length : Nat) : Int) > 20 by omega)]
      rw [decide_eq_false c, Bool.false_or, wrap_id (x := (i : Int) + 1) (by omega) (by omega)]
      exact h
theorem Long_f (l0 : List S24) (l1 : List Bool) : Evs (fun k => pylonlaw28_Long.f k l0 l1) (longB l0 l1) := by
  unfold pylonlaw28_Long.f longB
  by_cases c : 30 < l0.length
  · simp only [if_pos (show (l0.length : Int) > 30 by omega)]
    rw [decide_eq_true c, Bool.true_or, Bool.true_or]
    refine Evs.succ (Evs.all fun k => ?_)
    simp only [pylonlaw28_Long.j0, if_true]
  · simp only [if_neg (show ¬ (l0.length : Int) > 30 by omega)]
    rw [decide_eq_false c, Bool.false_or]
    have e : decide ((l1.length : Int) > 30) = decide (30 < l1.length) := by rw [decide_eq_decide]; omega
    rw [e]
    refine Evs.succ ?_
    simp only [pylonlaw28_Long.j0]
    by_cases c2 : 30 < l1.length
    · rw [decide_eq_true c2, Bool.true_or]
      simp only [if_true]
      exact Evs.const rfl
    · rw [decide_eq_false c2, Bool.false_or]
      simp only [if_neg (show ¬ (false = true) by decide)]
      have := long_loop l0 (by omega) l0.length 0 (by omega) (by omega)
      rw [List.drop_zero] at this
      exact this
def wI (n : Nat) (a : Int) : Int := if a ≤ (n : Int) then 1 else 0
theorem wokI (n : Nat) : Wok 1 (wI n) := by
  refine ⟨by omega, fun a b h0 h1 h2 => ?_, fun a b _ _ _ _ => ?_⟩
  · unfold wI; split <;> split <;> omega
  · unfold wI; split <;> split <;> omega
theorem KR_w (n : Nat) : ∀ (i : Nat) (us : List S24) (rs : List Int), rs.length = us.length → KR 1 (wI n) i us rs = sumP us rs + sumL (rs.take (n + 1 - i))
  | _, [], [], _ => by simp [KR, sumP, sumL]
  | _, [], _ :: _, h => by simp at h
  | _, _ :: _, [], h => by simp at h
  | i, u :: us, r :: rs, h => by
    have ih := KR_w n (i + 1) us rs (by simpa using h)
    rw [KR, sumP, ih, KU]
    by_cases hi : i ≤ n
    · have e : wI n (i : Int) = 1 := by unfold wI; rw [if_pos (by omega)]
      rw [e, show n + 1 - i = (n + 1 - (i + 1)) + 1 by omega, List.take_succ_cons, sumL]
      omega
    · have e : wI n (i : Int) = 0 := by unfold wI; rw [if_neg (by omega)]
      rw [e, show n + 1 - i = 0 by omega, show n + 1 - (i + 1) = 0 by omega, List.take_zero, List.take_zero, sumL]
      omega
theorem sumL_append : ∀ (a b : List Int), sumL (a ++ b) = sumL a + sumL b
  | [], b => by simp [sumL]
  | x :: a, b => by rw [List.cons_append, sumL, sumL, sumL_append a b]; omega
theorem sumL_take {l : List Int} {i : Nat} (h : i < l.length) : sumL (l.take (i + 1)) = sumL (l.take i) + l[i] := by
  rw [List.take_succ_eq_append_getElem h, sumL_append]
  simp [sumL]
structure Best (l0 : List S24) (l1 : List Bool) (d : Int) (l : List Int) : Prop where
  len : l.length = l0.length
  ok : allR l0 l1 l = true
  sum : sumL l = d
  le : ∀ r : List Int, r.length = l0.length → allR l0 l1 r = true → sumL r = d → sumP l0 l ≤ sumP l0 r
  lex : ∀ r : List Int, r.length = l0.length → allR l0 l1 r = true → sumL r = d → sumP l0 l = sumP l0 r → ∀ (i : Nat) (h : i < l.length) (h' : i < r.length), l.take i = r.take i → l[i] ≤ r[i]
theorem alloc_best {l0 : List S24} {l1 : List Bool} {d : Int} (hc : ckF l0 l1 = 0) (h0 : leastF l0 l1 ≤ d) (h1 : d ≤ mostF l0 l1) : Best l0 l1 d (allocRow l0 l1 (d - leastF l0 l1)) := by
  obtain ⟨a1, a2, a3, a4⟩ := alloc_opt hc h0 h1
  refine ⟨a1, a2, a3, fun r b1 b2 b3 => ?_, fun r b1 b2 b3 b4 i h h' ht => ?_⟩
  · have := a4 1 (fun _ => 0) wok0 r b1 b2 b3
    rwa [KR_0, KR_0] at this
  · have := a4 1 (wI i) (wokI i) r b1 b2 b3
    rw [KR_w i 0 l0 _ a1, KR_w i 0 l0 _ b1, Nat.sub_zero, sumL_take h, sumL_take h', ht] at this
    omega
theorem row_mem : ∀ (us : List S24) (bs : List Bool) (r : List Int), (∀ u ∈ us, OkU u) → bs.length = us.length → r.length = us.length → allR us bs r = true → ∀ x ∈ r, 0 ≤ x ∧ x ≤ 3000000
  | _, _, [], _, _, _, _, x, hx => by cases hx
  | [], _, _ :: _, _, _, h, _, _, _ => by simp at h
  | _ :: _, [], _, _, h, _, _, _, _ => by simp at h
  | u :: us, b :: bs, q :: r, ho, h1, h2, ha, x, hx => by
    have hu := ho u List.mem_cons_self
    have hb := okU_bnd hu
    have hm := hu.min0
    rw [allR, Bool.and_eq_true] at ha
    rcases List.mem_cons.1 hx with rfl | hx
    · have e := ha.1
      cases b with
      | false => simp [inR] at e; omega
      | true => simp [inR] at e; omega
    · exact row_mem us bs r (fun z hz => ho z (List.mem_cons_of_mem _ hz)) (by simpa using h1) (by simpa using h2) ha.2 x hx
theorem sumL_set : ∀ (l : List Int) (i : Nat) (y : Int) (h : i < l.length), sumL (l.set i y) = sumL l - l[i] + y
  | [], _, _, h => by simp at h
  | x :: l, 0, y, h => by simp [sumL]; omega
  | x :: l, i + 1, y, h => by
    have ih := sumL_set l i y (by simpa using h)
    rw [List.set_cons_succ, sumL, sumL, ih]
    simp
    omega
theorem cost_ok {l0 : List S24} {l1 : List Bool} {row : List Int} (h : (costR l0 l1 row).2 = 0) : ckF l0 l1 = 0 ∧ row.length = l0.length ∧ allR l0 l1 row = true ∧ costR l0 l1 row = (sumP l0 row, 0) := by
  unfold costR at h ⊢
  split
  · rename_i hc
    rw [if_pos hc] at h
    split
    · rename_i h2
      rw [if_pos h2] at h
      split
      · rename_i h3
        exact ⟨hc, h2, h3, rfl⟩
      · rename_i h3
        rw [if_neg h3] at h
        exact absurd h (by decide)
    · rename_i h2
      rw [if_neg h2] at h
      exact absurd h (by decide)
  · rename_i hc
    rw [if_neg hc] at h
    exact absurd h hc
theorem cost_is {l0 : List S24} {l1 : List Bool} {row : List Int} (h0 : ckF l0 l1 = 0) (h1 : row.length = l0.length) (h2 : allR l0 l1 row = true) : costR l0 l1 row = (sumP l0 row, 0) := by
  unfold costR
  rw [if_pos h0, if_pos h1, if_pos h2]
theorem allocR_err {l0 : List S24} {l1 : List Bool} {d : Int} (h : (allocR l0 l1 d).2 ≠ 0) : (allocR l0 l1 d).1 = [] ∧ leastR l0 l1 d = (0, (allocR l0 l1 d).2) := by
  refine ⟨?_, by unfold leastR; rw [if_neg h]⟩
  unfold allocR at h ⊢
  split
  · rename_i hc
    rw [if_pos hc] at h
    split
    · rfl
    · rename_i c1
      rw [if_neg c1] at h
      split
      · rfl
      · rename_i c2
        rw [if_neg c2] at h
        split
        · rfl
        · rename_i c3
          rw [if_neg c3] at h
          exact absurd rfl h
  · rfl
theorem allocR_ok {l0 : List S24} {l1 : List Bool} {d : Int} (h : (allocR l0 l1 d).2 = 0) : ckF l0 l1 = 0 ∧ 0 ≤ d ∧ leastF l0 l1 ≤ d ∧ d ≤ mostF l0 l1 ∧ ∃ l, allocR l0 l1 d = (l, 0) ∧ Best l0 l1 d l ∧ leastR l0 l1 d = (sumP l0 l, 0) := by
  have e : leastR l0 l1 d = costR l0 l1 (allocR l0 l1 d).1 := by unfold leastR; rw [if_pos h]
  rw [e]
  clear e
  unfold allocR at h ⊢
  split
  · rename_i hc
    rw [if_pos hc] at h
    split
    · rename_i c1
      rw [if_pos c1] at h
      exact absurd h (by decide)
    · rename_i c1
      rw [if_neg c1] at h
      split
      · rename_i c2
        rw [if_pos c2] at h
        exact absurd h (by decide)
      · rename_i c2
        rw [if_neg c2] at h
        split
        · rename_i c3
          rw [if_pos c3] at h
          exact absurd h (by decide)
        · rename_i c3
          have hb := alloc_best hc (show leastF l0 l1 ≤ d by omega) (show d ≤ mostF l0 l1 by omega)
          exact ⟨hc, by omega, by omega, by omega, _, rfl, hb, cost_is hc hb.len hb.ok⟩
  · rename_i hc
    rw [if_neg hc] at h
    exact absurd h hc
end Go.Proofs.Ytelklgdmhnkenaa.U
namespace Go.Proofs.Ytelklgdmhnkenaa.U
attribute [local go_sem] max2_int min2_int max_two min_two max_three min_three max_four min_four
mutual
def pylonlaw28_EnergyExchange.j0 : Nat → List (S24) → List Bool → Int → Int → Int → Bool → Option (Bool)
 | 0, _, _, _, _, _, _ => none
 | k + 1, x0, x1, x2, x3, x4, x30 => if x30 = true then ((pylonlaw28_awake.f k).bind fun t795 => (some t795)) else ((energy_Allocate.f k x0 x1 x2).bind fun bt796 => ((energy_LeastCost.f k x0 x1 x2).bind fun bt800 => (if bt796.2 = 0 then (pylonlaw28_EnergyExchange.j1 k x0 x1 x3 x4 bt796.1 bt796.2 bt800.1 bt800.2 ((bt796.1.length : Int) != (x0.length : Int))) else (pylonlaw28_EnergyExchange.j1 k x0 x1 x3 x4 bt796.1 bt796.2 bt800.1 bt800.2 true))))
def pylonlaw28_EnergyExchange.j1 : Nat → List (S24) → List Bool → Int → Int → List Int → Int → Int → Int → Bool → Option (Bool)
 | 0, _, _, _, _, _, _, _, _, _ => none
 | k + 1, x0, x1, x3, x4, x11, x12, x13, x14, x54 => if x54 = true then (if x12 = x14 then (some ((x11.length : Int) == 0)) else (none)) else (if (x0.length : Int) = 0 then (none) else (if (Int.tmod (wrap64 (x3)) (x0.length : Int)) = (Int.tmod (wrap64 (x4)) (x0.length : Int)) then (some (x14 == 0)) else (if 0 ≤ (Int.tmod (wrap64 (x3)) (x0.length : Int)) then (if (Int.tmod (wrap64 (x3)) (x0.length : Int)) < (x11.length : Int) then ((some (x11.set ((Int.tmod (wrap64 (x3)) (x0.length : Int)) : Int).toNat (wrap64 ((rd x11 (Int.tmod (wrap64 (x3)) (x0.length : Int))) - 1)) : List Int)).bind fun y803 => (if 0 ≤ (Int.tmod (wrap64 (x4)) (x0.length : Int)) then (if (Int.tmod (wrap64 (x4)) (x0.length : Int)) < (x11.length : Int) then ((energy_Cost.f k x0 x1 (y803.set ((Int.tmod (wrap64 (x4)) (x0.length : Int)) : Int).toNat (wrap64 ((rd y803 (Int.tmod (wrap64 (x4)) (x0.length : Int))) + 1)))).bind fun bt806 => (if x14 = 0 then (if bt806.2 = 0 then (if bt806.1 > x13 then (some true) else (if bt806.1 = x13 then (some (decide ((Int.tmod (wrap64 (x3)) (x0.length : Int)) > (Int.tmod (wrap64 (x4)) (x0.length : Int))))) else (none))) else (some true)) else (none))) else (none)) else (none))) else (none)) else (none))))
end
def pylonlaw28_EnergyExchange.f (k : Nat) (l0 : List (S24)) (l1 : List Bool) (a2 : Int) (a3 : Int) (a4 : Int) : Option (Bool) := (pylonlaw28_Long.f k l0 l1).bind fun t793 => (if t793 = true then (pylonlaw28_EnergyExchange.j0 k l0 l1 a2 a3 a4 true) else (if (l0.length : Int) = 0 then (pylonlaw28_EnergyExchange.j0 k l0 l1 a2 a3 a4 true) else ((pylonlaw28_awake.f k).bind fun t794 => (pylonlaw28_EnergyExchange.j0 k l0 l1 a2 a3 a4 (!t794)))))
set_option maxHeartbeats 8000000 in
set_option maxRecDepth 100000 in
theorem pylonlaw28_EnergyExchange.calls (k : Nat) (A0 : Option Addr) (c0 : Nat) (l0 : List (S24)) (A1 : Option Addr) (c1 : Nat) (l1 : List Bool) (a2 : Int) (a3 : Int) (a4 : Int) (r : Bool) (w : World) (hr0 : Kd.C k24 w A0 l0.length l0) (hc0 : l0.length ≤ c0) (hr1 : Kd.C Kd.bool w A1 l1.length l1) (hc1 : l1.length ≤ c1) (h : pylonlaw28_EnergyExchange.f k l0 l1 a2 a3 a4 = some r) :
  Calls Try.prog 11 #[.slice A0 l0.length c0, .slice A1 l1.length c1, .int .i64 a2, .int .u8 a3, .int .u8 a4] w fun e w' => e = .returned (.bool r) ∧ Below w.heap.size w w' := by
 have HR0 := Aside0.mk hr0
 have HC0 := Aside0.mk hc0
 clear hr0 hc0
 have HR1 := Aside0.mk hr1
 have HC1 := Aside0.mk hc1
 clear hr1 hc1
 have HB := Aside0.mk (Below.refl w.heap.size w)
 have H : ((pylonlaw28_Long.f k l0 l1).bind fun t793 => (if t793 = true then (pylonlaw28_EnergyExchange.j0 k l0 l1 a2 a3 a4 true) else (if (l0.length : Int) = 0 then (pylonlaw28_EnergyExchange.j0 k l0 l1 a2 a3 a4 true) else ((pylonlaw28_awake.f k).bind fun t794 => (pylonlaw28_EnergyExchange.j0 k l0 l1 a2 a3 a4 (!t794)))))) = some r := h
 clear h
 have HC6 := Aside0.mk H
 clear H
 go_enter Try.func11, Try.ntmps11
 go_upto_region 1 with (fail)
 repeat (go_quiet (fail); go_upto_region 1 with (fail))
 go_cut [30] (fun v30 wc => ∃ (kq : Nat) (x30_5 : Bool), v30 = .bool x30_5 ∧ Aside0 (pylonlaw28_EnergyExchange.j0 kq l0 l1 a2 a3 a4 x30_5 = some r) ∧ Aside0 (kq ≤ k) ∧ Aside0 (Below w.heap.size w wc))
 case first =>
  have H := HC6.out
  clear HC6
  replace H := Option.bind_eq_some_iff.mp H
  obtain ⟨t793, A70, H⟩ := H
  replace H : (if t793 = true then (pylonlaw28_EnergyExchange.j0 k l0 l1 a2 a3 a4 true) else (if (l0.length : Int) = 0 then (pylonlaw28_EnergyExchange.j0 k l0 l1 a2 a3 a4 true) else ((pylonlaw28_awake.f k).bind fun t794 => (pylonlaw28_EnergyExchange.j0 k l0 l1 a2 a3 a4 (!t794))))) = some r := H
  have A7 := Aside0.mk A70
  clear A70
  by_cases c8 : t793 = true
  ·subst c8
   have H1 : (pylonlaw28_EnergyExchange.j0 k l0 l1 a2 a3 a4 true) = some r := by rw [if_pos rfl] at H; exact H
   clear H
   have H := H1
   clear H1
   have H' := Aside0.mk H
   clear H
   go_wp2_with (first | (go_at_call 29; (with_reducible refine (pylonlaw28_Long.calls k _ _ l0 _ _ l1 true _ ?side1 ?side2 ?side3 ?side4 A7.out).mono ?_); (case side1 => exact cA_ (Kd.C_below HR0.out HB.out)); (case side2 => exact HC0.out); (case side3 => exact cA_ (Kd.C_below HR1.out HB.out)); (case side4 => exact HC1.out); rintro e w' ⟨rfl, ⟨nd, rfl⟩⟩; (try first | exact ⟨rfl, _, World.drewN_drewN _ _ _⟩ | exact ⟨rfl, _, Eq.trans (World.drewN_drewN _ _ _) (congrArg (World.drewN _) (Nat.add_assoc _ _ _))⟩)))
   repeat (go_quiet (first | (go_at_call 29; (with_reducible refine (pylonlaw28_Long.calls k _ _ l0 _ _ l1 true _ ?side1 ?side2 ?side3 ?side4 A7.out).mono ?_); (case side1 => exact cA_ (Kd.C_below HR0.out HB.out)); (case side2 => exact HC0.out); (case side3 => exact cA_ (Kd.C_below HR1.out HB.out)); (case side4 => exact HC1.out); rintro e w' ⟨rfl, ⟨nd, rfl⟩⟩; (try first | exact ⟨rfl, _, World.drewN_drewN _ _ _⟩ | exact ⟨rfl, _, Eq.trans (World.drewN_drewN _ _ _) (congrArg (World.drewN _) (Nat.add_assoc _ _ _))⟩))); try go_wp2_with (first | (go_at_call 29; (with_reducible refine (pylonlaw28_Long.calls k _ _ l0 _ _ l1 true _ ?side1 ?side2 ?side3 ?side4 A7.out).mono ?_); (case side1 => exact cA_ (Kd.C_below HR0.out HB.out)); (case side2 => exact HC0.out); (case side3 => exact cA_ (Kd.C_below HR1.out HB.out)); (case side4 => exact HC1.out); rintro e w' ⟨rfl, ⟨nd, rfl⟩⟩; (try first | exact ⟨rfl, _, World.drewN_drewN _ _ _⟩ | exact ⟨rfl, _, Eq.trans (World.drewN_drewN _ _ _) (congrArg (World.drewN _) (Nat.add_assoc _ _ _))⟩))))
   go_meet
   case rel => exact ⟨_, (true), m_9, H', ⟨m_71⟩, ⟨m_1⟩⟩
  ·replace c8 := Bool.eq_false_iff.mpr c8
   subst c8
   have H1 : (if (l0.length : Int) = 0 then (pylonlaw28_EnergyExchange.j0 k l0 l1 a2 a3 a4 true) else ((pylonlaw28_awake.f k).bind fun t794 => (pylonlaw28_EnergyExchange.j0 k l0 l1 a2 a3 a4 (!t794)))) = some r := by rw [if_neg (show ¬ (false = true) by decide)] at H; exact H
   clear H
   have H := H1
   clear H1
   by_cases c9 : (l0.length : Int) = 0
   ·rw [if_pos c9] at H
    have c9b0 : ((l0.length : Int) == 0) = true := beq_iff_eq.mpr c9
    have c9b1 : ((l0.length : Int) != 0) = false := bne_eq_false_iff_eq.mpr c9
    clear c9
    (first | rw [c9b0] | (simp only [i64_w, i32_w]; rw [c9b0]) | skip)
    have H' := Aside0.mk H
    clear H
    go_wp2_with (first | (go_at_call 29; (with_reducible refine (pylonlaw28_Long.calls k _ _ l0 _ _ l1 false _ ?side1 ?side2 ?side3 ?side4 A7.out).mono ?_); (case side1 => exact cA_ (Kd.C_below HR0.out HB.out)); (case side2 => exact HC0.out); (case side3 => exact cA_ (Kd.C_below HR1.out HB.out)); (case side4 => exact HC1.out); rintro e w' ⟨rfl, ⟨nd, rfl⟩⟩; (try first | exact ⟨rfl, _, World.drewN_drewN _ _ _⟩ | exact ⟨rfl, _, Eq.trans (World.drewN_drewN _ _ _) (congrArg (World.drewN _) (Nat.add_assoc _ _ _))⟩)))
    repeat (go_quiet (first | (go_at_call 29; (with_reducible refine (pylonlaw28_Long.calls k _ _ l0 _ _ l1 false _ ?side1 ?side2 ?side3 ?side4 A7.out).mono ?_); (case side1 => exact cA_ (Kd.C_below HR0.out HB.out)); (case side2 => exact HC0.out); (case side3 => exact cA_ (Kd.C_below HR1.out HB.out)); (case side4 => exact HC1.out); rintro e w' ⟨rfl, ⟨nd, rfl⟩⟩; (try first | exact ⟨rfl, _, World.drewN_drewN _ _ _⟩ | exact ⟨rfl, _, Eq.trans (World.drewN_drewN _ _ _) (congrArg (World.drewN _) (Nat.add_assoc _ _ _))⟩))); try go_wp2_with (first | (go_at_call 29; (with_reducible refine (pylonlaw28_Long.calls k _ _ l0 _ _ l1 false _ ?side1 ?side2 ?side3 ?side4 A7.out).mono ?_); (case side1 => exact cA_ (Kd.C_below HR0.out HB.out)); (case side2 => exact HC0.out); (case side3 => exact cA_ (Kd.C_below HR1.out HB.out)); (case side4 => exact HC1.out); rintro e w' ⟨rfl, ⟨nd, rfl⟩⟩; (try first | exact ⟨rfl, _, World.drewN_drewN _ _ _⟩ | exact ⟨rfl, _, Eq.trans (World.drewN_drewN _ _ _) (congrArg (World.drewN _) (Nat.add_assoc _ _ _))⟩))))
    go_meet
    case rel => exact ⟨_, (true), m_9, H', ⟨m_71⟩, ⟨m_1⟩⟩
   ·rw [if_neg c9] at H
    have c9b0 : ((l0.length : Int) == 0) = false := beq_eq_false_iff_ne.mpr c9
    have c9b1 : ((l0.length : Int) != 0) = true := bne_iff_ne.mpr c9
    have c9b2 : ¬ (l0 = []) := fun h_ => c9 (by rw [h_]; rfl)
    (first | rw [c9b0] | (simp only [i64_w, i32_w]; rw [c9b0]) | skip)
    replace H := Option.bind_eq_some_iff.mp H
    obtain ⟨t794, A100, H⟩ := H
    replace H : (pylonlaw28_EnergyExchange.j0 k l0 l1 a2 a3 a4 (!t794)) = some r := H
    have A10 := Aside0.mk A100
    clear A100
    have H' := Aside0.mk H
    clear H
    go_wp2_with (first | (go_at_call 29; (with_reducible refine (pylonlaw28_Long.calls k _ _ l0 _ _ l1 false _ ?side1 ?side2 ?side3 ?side4 A7.out).mono ?_); (case side1 => exact cA_ (Kd.C_below HR0.out HB.out)); (case side2 => exact HC0.out); (case side3 => exact cA_ (Kd.C_below HR1.out HB.out)); (case side4 => exact HC1.out); rintro e w' ⟨rfl, ⟨nd, rfl⟩⟩; (try first | exact ⟨rfl, _, World.drewN_drewN _ _ _⟩ | exact ⟨rfl, _, Eq.trans (World.drewN_drewN _ _ _) (congrArg (World.drewN _) (Nat.add_assoc _ _ _))⟩)) | (go_at_call 30; (with_reducible refine (pylonlaw28_awake.calls k  t794 _ A10.out).mono ?_); rintro e w11 ⟨rfl, hb⟩; replace HB := Aside0.mk (below_step m_1 hb); clear hb))
    repeat (go_quiet (first | (go_at_call 29; (with_reducible refine (pylonlaw28_Long.calls k _ _ l0 _ _ l1 false _ ?side1 ?side2 ?side3 ?side4 A7.out).mono ?_); (case side1 => exact cA_ (Kd.C_below HR0.out HB.out)); (case side2 => exact HC0.out); (case side3 => exact cA_ (Kd.C_below HR1.out HB.out)); (case side4 => exact HC1.out); rintro e w' ⟨rfl, ⟨nd, rfl⟩⟩; (try first | exact ⟨rfl, _, World.drewN_drewN _ _ _⟩ | exact ⟨rfl, _, Eq.trans (World.drewN_drewN _ _ _) (congrArg (World.drewN _) (Nat.add_assoc _ _ _))⟩)) | (go_at_call 30; (with_reducible refine (pylonlaw28_awake.calls k  t794 _ A10.out).mono ?_); rintro e w11 ⟨rfl, hb⟩; replace HB := Aside0.mk (below_step m_1 hb); (try clear hb))); try go_wp2_with (first | (go_at_call 29; (with_reducible refine (pylonlaw28_Long.calls k _ _ l0 _ _ l1 false _ ?side1 ?side2 ?side3 ?side4 A7.out).mono ?_); (case side1 => exact cA_ (Kd.C_below HR0.out HB.out)); (case side2 => exact HC0.out); (case side3 => exact cA_ (Kd.C_below HR1.out HB.out)); (case side4 => exact HC1.out); rintro e w' ⟨rfl, ⟨nd, rfl⟩⟩; (try first | exact ⟨rfl, _, World.drewN_drewN _ _ _⟩ | exact ⟨rfl, _, Eq.trans (World.drewN_drewN _ _ _) (congrArg (World.drewN _) (Nat.add_assoc _ _ _))⟩)) | (go_at_call 30; (with_reducible refine (pylonlaw28_awake.calls k  t794 _ A10.out).mono ?_); rintro e w11 ⟨rfl, hb⟩; replace HB := Aside0.mk (below_step m_1 hb); (try clear hb))))
    go_meet
    case rel => exact ⟨_, (!t794), m_9, H', ⟨m_71⟩, ⟨m_1⟩⟩
 case rest =>
  clear HC6
  (try clear c1); (try clear p2); (try clear c8); (try clear c9); (try clear c9b0); (try clear c9b1); (try clear c9b2); (try clear c11)
  obtain ⟨kq, x30_5, rfl, HA, HJ5, HB⟩ := hcut
  cases kq with
  | zero => exact absurd HA.out (by simp [pylonlaw28_EnergyExchange.j0])
  | succ kj5 =>
   have H := HA.out
   clear HA
   simp only [pylonlaw28_EnergyExchange.j0] at H
   by_cases c12 : x30_5 = true
   ·subst c12
    have H1 : ((pylonlaw28_awake.f kj5).bind fun t795 => (some t795)) = some r := by rw [if_pos rfl] at H; exact H
    clear H
    have H := H1
    clear H1
    replace H := Option.bind_eq_some_iff.mp H
    obtain ⟨t795, A130, H⟩ := H
    replace H : (some t795) = some r := H
    have A13 := Aside0.mk A130
    clear A130
    obtain rfl := Option.some.inj H
    go_wp2_with (first | (go_at_call 30; (with_reducible refine (pylonlaw28_awake.calls kj5  t795 _ A13.out).mono ?_); rintro e w14 ⟨rfl, hb⟩; replace HB := Aside0.mk (below_step m_1 hb); clear hb))
    repeat (go_quiet (first | (go_at_call 30; (with_reducible refine (pylonlaw28_awake.calls kj5  t795 _ A13.out).mono ?_); rintro e w14 ⟨rfl, hb⟩; replace HB := Aside0.mk (below_step m_1 hb); (try clear hb))); try go_wp2_with (first | (go_at_call 30; (with_reducible refine (pylonlaw28_awake.calls kj5  t795 _ A13.out).mono ?_); rintro e w14 ⟨rfl, hb⟩; replace HB := Aside0.mk (below_step m_1 hb); (try clear hb))))
    go_ret
    exact ⟨m_5, m_1⟩
   ·replace c12 := Bool.eq_false_iff.mpr c12
    subst c12
    have H1 : ((energy_Allocate.f kj5 l0 l1 a2).bind fun bt796 => ((energy_LeastCost.f kj5 l0 l1 a2).bind fun bt800 => (if bt796.2 = 0 then (pylonlaw28_EnergyExchange.j1 kj5 l0 l1 a3 a4 bt796.1 bt796.2 bt800.1 bt800.2 ((bt796.1.length : Int) != (l0.length : Int))) else (pylonlaw28_EnergyExchange.j1 kj5 l0 l1 a3 a4 bt796.1 bt796.2 bt800.1 bt800.2 true)))) = some r := by rw [if_neg (show ¬ (false = true) by decide)] at H; exact H
    clear H
    have H := H1
    clear H1
    replace H := Option.bind_eq_some_iff.mp H
    obtain ⟨⟨t796, t797⟩, A150, H⟩ := H
    replace H : ((energy_LeastCost.f kj5 l0 l1 a2).bind fun bt800 => (if t797 = 0 then (pylonlaw28_EnergyExchange.j1 kj5 l0 l1 a3 a4 t796 t797 bt800.1 bt800.2 ((t796.length : Int) != (l0.length : Int))) else (pylonlaw28_EnergyExchange.j1 kj5 l0 l1 a3 a4 t796 t797 bt800.1 bt800.2 true))) = some r := H
    have A15 := Aside0.mk A150
    clear A150
    replace H := Option.bind_eq_some_iff.mp H
    obtain ⟨⟨t800, t801⟩, A160, H⟩ := H
    replace H : (if t797 = 0 then (pylonlaw28_EnergyExchange.j1 kj5 l0 l1 a3 a4 t796 t797 t800 t801 ((t796.length : Int) != (l0.length : Int))) else (pylonlaw28_EnergyExchange.j1 kj5 l0 l1 a3 a4 t796 t797 t800 t801 true)) = some r := H
    have A16 := Aside0.mk A160
    clear A160
    have HC17 := Aside0.mk H
    clear H
    go_upto_region 5 with (first | (go_at_call 32; (with_reducible refine (energy_Allocate.calls kj5 _ _ l0 _ _ l1 a2 t796 t797 _ ?side1 ?side2 ?side3 ?side4 A15.out).mono ?_); (case side1 => exact cA_ (Kd.C_below HR0.out HB.out)); (case side2 => exact HC0.out); (case side3 => exact cA_ (Kd.C_below HR1.out HB.out)); (case side4 => exact HC1.out); rintro e w18 ⟨v798, rfl, ho0, hb⟩; have HO799 := Aside0.mk (Kd.R_lower ho0 (below_size m_1)); replace HB := Aside0.mk (below_step m_1 hb); (try clear hb); (try clear ho0)) | (go_at_call 33; (with_reducible refine (energy_LeastCost.calls kj5 _ _ l0 _ _ l1 a2 t800 t801 _ ?side1 ?side2 ?side3 ?side4 A16.out).mono ?_); (case side1 => exact cA_ (Kd.C_below HR0.out HB.out)); (case side2 => exact HC0.out); (case side3 => exact cA_ (Kd.C_below HR1.out HB.out)); (case side4 => exact HC1.out); rintro e w19 ⟨rfl, hb⟩; replace HO799 := rB_ HO799 hb; replace HB := Aside0.mk (below_step m_1 hb); (try clear hb)))
    repeat (go_quiet (first | (go_at_call 32; (with_reducible refine (energy_Allocate.calls kj5 _ _ l0 _ _ l1 a2 t796 t797 _ ?side1 ?side2 ?side3 ?side4 A15.out).mono ?_); (case side1 => exact cA_ (Kd.C_below HR0.out HB.out)); (case side2 => exact HC0.out); (case side3 => exact cA_ (Kd.C_below HR1.out HB.out)); (case side4 => exact HC1.out); rintro e w18 ⟨v798, rfl, ho0, hb⟩; have HO799 := Aside0.mk (Kd.R_lower ho0 (below_size m_1)); replace HB := Aside0.mk (below_step m_1 hb); (try clear hb); (try clear ho0)) | (go_at_call 33; (with_reducible refine (energy_LeastCost.calls kj5 _ _ l0 _ _ l1 a2 t800 t801 _ ?side1 ?side2 ?side3 ?side4 A16.out).mono ?_); (case side1 => exact cA_ (Kd.C_below HR0.out HB.out)); (case side2 => exact HC0.out); (case side3 => exact cA_ (Kd.C_below HR1.out HB.out)); (case side4 => exact HC1.out); rintro e w19 ⟨rfl, hb⟩; replace HO799 := rB_ HO799 hb; replace HB := Aside0.mk (below_step m_1 hb); (try clear hb))); go_upto_region 5 with (first | (go_at_call 32; (with_reducible refine (energy_Allocate.calls kj5 _ _ l0 _ _ l1 a2 t796 t797 _ ?side1 ?side2 ?side3 ?side4 A15.out).mono ?_); (case side1 => exact cA_ (Kd.C_below HR0.out HB.out)); (case side2 => exact HC0.out); (case side3 => exact cA_ (Kd.C_below HR1.out HB.out)); (case side4 => exact HC1.out); rintro e w18 ⟨v798, rfl, ho0, hb⟩; have HO799 := Aside0.mk (Kd.R_lower ho0 (below_size m_1)); replace HB := Aside0.mk (below_step m_1 hb); (try clear hb); (try clear ho0)) | (go_at_call 33; (with_reducible refine (energy_LeastCost.calls kj5 _ _ l0 _ _ l1 a2 t800 t801 _ ?side1 ?side2 ?side3 ?side4 A16.out).mono ?_); (case side1 => exact cA_ (Kd.C_below HR0.out HB.out)); (case side2 => exact HC0.out); (case side3 => exact cA_ (Kd.C_below HR1.out HB.out)); (case side4 => exact HC1.out); rintro e w19 ⟨rfl, hb⟩; replace HO799 := rB_ HO799 hb; replace HB := Aside0.mk (below_step m_1 hb); (try clear hb))))
    (try simp only [Act.put, List.setIfInBounds_toArray, List.set_cons_zero, List.set_cons_succ])
    go_cut [54] (fun v54 wc => ∃ (kq : Nat) (x54_16 : Bool), v54 = .bool x54_16 ∧ Aside0 (pylonlaw28_EnergyExchange.j1 kq l0 l1 a3 a4 t796 t797 t800 t801 x54_16 = some r) ∧ Aside0 (kq ≤ kj5) ∧ Aside0 (Kd.R (Kd.int .i64) 2 wc w.heap.size (fun _ => True) v798 t796) ∧ Aside0 (Below w.heap.size w wc))
    case first =>
     have H := HC17.out
     clear HC17
     by_cases c20 : t797 = 0
     ·rw [if_pos c20] at H
      have c20b0 : (t797 == 0) = true := beq_iff_eq.mpr c20
      have c20b1 : (t797 != 0) = false := bne_eq_false_iff_eq.mpr c20
      clear c20
      (first | rw [c20b0] | (simp only [i64_w, i32_w]; rw [c20b0]) | skip)
      have H' := Aside0.mk H
      clear H
      obtain ⟨Ao21, co21, eo21⟩ := Kd.R_slice HO799.out
      subst eo21
      go_wp2
      repeat (go_quiet (fail); try go_wp2)
      go_meet
      case rel => exact ⟨_, (((t796.length : Int) != (l0.length : Int))), m_9, H', ⟨(by have := HJ5.out; first | omega | exact Nat.le_refl _)⟩, ⟨(by (with_reducible repeat (first | apply Kd.R_alloc | apply Kd.R_drewN | apply Kd.R_drew)); exact HO799.out)⟩, ⟨m_1⟩⟩
     ·rw [if_neg c20] at H
      have c20b0 : (t797 == 0) = false := beq_eq_false_iff_ne.mpr c20
      have c20b1 : (t797 != 0) = true := bne_iff_ne.mpr c20
      (first | rw [c20b0] | (simp only [i64_w, i32_w]; rw [c20b0]) | skip)
      have H' := Aside0.mk H
      clear H
      go_wp2
      repeat (go_quiet (fail); try go_wp2)
      go_meet
      case rel => exact ⟨_, (true), m_9, H', ⟨(by have := HJ5.out; first | omega | exact Nat.le_refl _)⟩, ⟨(by (with_reducible repeat (first | apply Kd.R_alloc | apply Kd.R_drewN | apply Kd.R_drew)); exact HO799.out)⟩, ⟨m_1⟩⟩
    case rest =>
     clear HC17
     (try clear c1); (try clear c2); (try clear p2); (try clear c8); (try clear c9); (try clear c9b0); (try clear c9b1); (try clear c9b2); (try clear c11); (try clear c12); (try clear c20); (try clear c20b0); (try clear c20b1); (try clear p2)
     obtain ⟨kq, x54_16, rfl, HA, HJ16, HO_11, HB⟩ := hcut
     cases kq with
     | zero => exact absurd HA.out (by simp [pylonlaw28_EnergyExchange.j1])
     | succ kj16 =>
      have H := HA.out
      clear HA
      simp only [pylonlaw28_EnergyExchange.j1] at H
      by_cases c22 : x54_16 = true
      ·subst c22
       have H1 : (if t797 = t801 then (some ((t796.length : Int) == 0)) else (none)) = some r := by rw [if_pos rfl] at H; exact H
       clear H
       have H := H1
       clear H1
       by_cases c23 : t797 = t801
       ·rw [if_pos c23] at H
        have c23b0 : (t797 == t801) = true := beq_iff_eq.mpr c23
        clear c23
        obtain rfl := Option.some.inj H
        obtain ⟨Ao24, co24, eo24⟩ := Kd.R_slice HO_11.out
        subst eo24
        go_wp2
        repeat (go_quiet (fail); try go_wp2)
        go_ret
        exact ⟨m_5, m_1⟩
       ·rw [if_neg c23] at H
        cases H
      ·replace c22 := Bool.eq_false_iff.mpr c22
       subst c22
       have H1 : (if (l0.length : Int) = 0 then (none) else (if (Int.tmod (wrap64 (a3)) (l0.length : Int)) = (Int.tmod (wrap64 (a4)) (l0.length : Int)) then (some (t801 == 0)) else (if 0 ≤ (Int.tmod (wrap64 (a3)) (l0.length : Int)) then (if (Int.tmod (wrap64 (a3)) (l0.length : Int)) < (t796.length : Int) then ((some (t796.set ((Int.tmod (wrap64 (a3)) (l0.length : Int)) : Int).toNat (wrap64 ((rd t796 (Int.tmod (wrap64 (a3)) (l0.length : Int))) - 1)) : List Int)).bind fun y803 => (if 0 ≤ (Int.tmod (wrap64 (a4)) (l0.length : Int)) then (if (Int.tmod (wrap64 (a4)) (l0.length : Int)) < (t796.length : Int) then ((energy_Cost.f kj16 l0 l1 (y803.set ((Int.tmod (wrap64 (a4)) (l0.length : Int)) : Int).toNat (wrap64 ((rd y803 (Int.tmod (wrap64 (a4)) (l0.length : Int))) + 1)))).bind fun bt806 => (if t801 = 0 then (if bt806.2 = 0 then (if bt806.1 > t800 then (some true) else (if bt806.1 = t800 then (some (decide ((Int.tmod (wrap64 (a3)) (l0.length : Int)) > (Int.tmod (wrap64 (a4)) (l0.length : Int))))) else (none))) else (some true)) else (none))) else (none)) else (none))) else (none)) else (none)))) = some r := by rw [if_neg (show ¬ (false = true) by decide)] at H; exact H
       clear H
       have H := H1
       clear H1
       by_cases c25 : (l0.length : Int) = 0
       ·rw [if_pos c25] at H
        exact absurd H (by simp)
       ·rw [if_neg c25] at H
        have c25b2 : ¬ (l0 = []) := fun h_ => c25 (by rw [h_]; rfl)
        by_cases c26 : (Int.tmod (wrap64 (a3)) (l0.length : Int)) = (Int.tmod (wrap64 (a4)) (l0.length : Int))
        ·rw [if_pos c26] at H
         have c26b0 : ((Int.tmod (wrap64 (a3)) (l0.length : Int)) == (Int.tmod (wrap64 (a4)) (l0.length : Int))) = true := beq_iff_eq.mpr c26
         have c26b1 : ((Int.tmod (wrap64 (a3)) (l0.length : Int)) != (Int.tmod (wrap64 (a4)) (l0.length : Int))) = false := bne_eq_false_iff_eq.mpr c26
         clear c26
         obtain rfl := Option.some.inj H
         go_wp2
         repeat (go_quiet (fail); try go_wp2)
         go_ret
         exact ⟨m_5, m_1⟩
        ·rw [if_neg c26] at H
         have c26b0 : ((Int.tmod (wrap64 (a3)) (l0.length : Int)) == (Int.tmod (wrap64 (a4)) (l0.length : Int))) = false := beq_eq_false_iff_ne.mpr c26
         have c26b1 : ((Int.tmod (wrap64 (a3)) (l0.length : Int)) != (Int.tmod (wrap64 (a4)) (l0.length : Int))) = true := bne_iff_ne.mpr c26
         obtain ⟨ji27, hji27⟩ : ∃ j_ : Int, (Int.tmod (wrap64 (a3)) (l0.length : Int)) = j_ := ⟨_, rfl⟩
         replace H : (if 0 ≤ (ji27) then (if (ji27) < (t796.length : Int) then ((some (t796.set ((ji27) : Int).toNat (wrap64 ((rd t796 (ji27)) - 1)) : List Int)).bind fun y803 => (if 0 ≤ (Int.tmod (wrap64 (a4)) (l0.length : Int)) then (if (Int.tmod (wrap64 (a4)) (l0.length : Int)) < (t796.length : Int) then ((energy_Cost.f kj16 l0 l1 (y803.set ((Int.tmod (wrap64 (a4)) (l0.length : Int)) : Int).toNat (wrap64 ((rd y803 (Int.tmod (wrap64 (a4)) (l0.length : Int))) + 1)))).bind fun bt806 => (if t801 = 0 then (if bt806.2 = 0 then (if bt806.1 > t800 then (some true) else (if bt806.1 = t800 then (some (decide ((ji27) > (Int.tmod (wrap64 (a4)) (l0.length : Int))))) else (none))) else (some true)) else (none))) else (none)) else (none))) else (none)) else (none)) = some r := by first | (rw [hji27] at H; exact H) | (simp only [hji27] at H ⊢; exact H)
         (try rw [hji27] at c26b0)
         (try rw [hji27] at c26b1)
         by_cases c28 : 0 ≤ (ji27)
         ·rw [if_pos c28] at H
          have c28b0 : decide (0 ≤ (ji27)) = true := decide_eq_true c28
          clear c28
          by_cases c29 : (ji27) < (t796.length : Int)
          ·rw [if_pos c29] at H
           have c29b0 : decide ((ji27) < (t796.length : Int)) = true := decide_eq_true c29
           clear c29
           obtain ⟨y803, hy803⟩ : ∃ y_ : List Int, y_ = (t796.set ((ji27) : Int).toNat (wrap64 ((rd t796 (ji27)) - 1))) := ⟨_, rfl⟩
           replace H : (if 0 ≤ (Int.tmod (wrap64 (a4)) (l0.length : Int)) then (if (Int.tmod (wrap64 (a4)) (l0.length : Int)) < (t796.length : Int) then ((energy_Cost.f kj16 l0 l1 (y803.set ((Int.tmod (wrap64 (a4)) (l0.length : Int)) : Int).toNat (wrap64 ((rd y803 (Int.tmod (wrap64 (a4)) (l0.length : Int))) + 1)))).bind fun bt806 => (if t801 = 0 then (if bt806.2 = 0 then (if bt806.1 > t800 then (some true) else (if bt806.1 = t800 then (some (decide ((ji27) > (Int.tmod (wrap64 (a4)) (l0.length : Int))))) else (none))) else (some true)) else (none))) else (none)) else (none)) = some r := by first | (rw [hy803]; with_reducible exact H) | (have H2_ := (Option.bind_some _ _).symm.trans H; rw [hy803]; with_reducible exact H2_) | (have H2_ := (Option.bind_some _ _).symm.trans H; with_reducible exact H2_) | with_reducible exact H | (rw [hy803]; exact H) | exact H
           have Ny803 := Aside0.mk hy803
           clear hy803
           obtain ⟨ji31, hji31⟩ : ∃ j_ : Int, (Int.tmod (wrap64 (a4)) (l0.length : Int)) = j_ := ⟨_, rfl⟩
           replace H : (if 0 ≤ (ji31) then (if (ji31) < (t796.length : Int) then ((energy_Cost.f kj16 l0 l1 (y803.set ((ji31) : Int).toNat (wrap64 ((rd y803 (ji31)) + 1)))).bind fun bt806 => (if t801 = 0 then (if bt806.2 = 0 then (if bt806.1 > t800 then (some true) else (if bt806.1 = t800 then (some (decide ((ji27) > (ji31)))) else (none))) else (some true)) else (none))) else (none)) else (none)) = some r := by first | (rw [hji31] at H; exact H) | (simp only [hji31] at H ⊢; exact H)
           (try rw [hji31] at c26b0)
           (try rw [hji31] at c26b1)
           by_cases c32 : 0 ≤ (ji31)
           ·rw [if_pos c32] at H
            have c32b0 : decide (0 ≤ (ji31)) = true := decide_eq_true c32
            clear c32
            by_cases c33 : (ji31) < (t796.length : Int)
            ·rw [if_pos c33] at H
             have c33b0 : decide ((ji31) < (t796.length : Int)) = true := decide_eq_true c33
             clear c33
             obtain ⟨y805, hy805⟩ : ∃ y_ : List Int, y_ = (y803.set ((ji31) : Int).toNat (wrap64 ((rd y803 (ji31)) + 1))) := ⟨_, rfl⟩
             replace H : ((energy_Cost.f kj16 l0 l1 y805).bind fun bt806 => (if t801 = 0 then (if bt806.2 = 0 then (if bt806.1 > t800 then (some true) else (if bt806.1 = t800 then (some (decide ((ji27) > (ji31)))) else (none))) else (some true)) else (none))) = some r := by first | (rw [hy805]; with_reducible exact H) | (have H2_ := (Option.bind_some _ _).symm.trans H; rw [hy805]; with_reducible exact H2_) | (have H2_ := (Option.bind_some _ _).symm.trans H; with_reducible exact H2_) | with_reducible exact H | (rw [hy805]; exact H) | exact H
             have Ny805 := Aside0.mk hy805
             clear hy805
             replace H := Option.bind_eq_some_iff.mp H
             obtain ⟨⟨t806, t807⟩, A350, H⟩ := H
             replace H : (if t801 = 0 then (if t807 = 0 then (if t806 > t800 then (some true) else (if t806 = t800 then (some (decide ((ji27) > (ji31)))) else (none))) else (some true)) else (none)) = some r := H
             have A35 := Aside0.mk A350
             clear A350
             by_cases c36 : t801 = 0
             ·rw [if_pos c36] at H
              have c36b0 : (t801 == 0) = true := beq_iff_eq.mpr c36
              clear c36
              by_cases c37 : t807 = 0
              ·rw [if_pos c37] at H
               have c37b1 : (t807 != 0) = false := bne_eq_false_iff_eq.mpr c37
               clear c37
               by_cases c38 : t806 > t800
               ·rw [if_pos c38] at H
                have c38b0 : decide (t800 < t806) = true := decide_eq_true c38
                clear c38
                obtain rfl := Option.some.inj H
                obtain ⟨Ao39, co39, eo39⟩ := Kd.R_slice HO_11.out
                subst eo39
                have p802 : 0 ≤ ((ji27) : Int) := of_decide_eq_true m_4
                have q802 : (ji27) < (t796.length : Int) := of_decide_eq_true m_4
                obtain ⟨ad802, e802, hx802_0⟩ := Kd.at_int (Kd.R_reads' HO_11.out).2.2 (ji27) p802 q802
                cases e802
                replace p802 := eq_true p802
                replace q802 := eq_true q802
                have p30 : 0 ≤ ((ji27) : Int) := of_decide_eq_true m_4
                have q30 : ((ji27) : Int) < ((t796.length : Int) : Int) := of_decide_eq_true m_4
                obtain ⟨go30, co30, eo30, gb30, gl30, cl30, HG30⟩ := Kd.R_form HO_11.out (by omega)
                (first | cases eo30 | (injection eo30 with ea_ en_ ec_; (first | subst ea_ | (injection ea_ with ea_; subst ea_)); subst ec_; clear en_))
                have GB30 := Aside0.mk gb30
                clear gb30 gl30 HG30
                (first | simp only [add_plain] at hx802_0 | skip)
                obtain ⟨hx30_0, hf30_0⟩ := Kd.R_celln 0 HO_11.out ((ji27) : Int) p30 q30
                go_wp2_with (first | ((with_reducible refine gate_store (t := 2) (p := 83) rfl ?_); (try (rw [drewN_self wc]; generalize hq_ : World.drewN wc _ = wc; replace HO_11 := Aside0.mk (Kd.R_at hq_ HO_11.out); replace HB := Aside0.mk (below_at hq_ HB.out); clear hq_; (try (obtain ⟨hy41_, hz41_⟩ := Kd.R_celln 0 HO_11.out ((ji27) : Int) (of_decide_eq_true m_4) (of_decide_eq_true m_4))); (try (have HP40 := Kd.R_putg HO_11.out ((ji27) : Int) (wrap64 ((rd t796 (ji27)) - 1)))))); refine store_event (t := 2) (p := 83) (v := ?vo_w41) (w1 := (wc.setCell ⟨go30, ((ji27) : Int).toNat, none⟩ (.int .i64 (wrap64 ((rd t796 (ji27)) - 1))))) ?hg ?ho ?hn ?hr ?_; (case ho => rfl); (case hg => rfl); (case hn => rfl); (case hr => exact hr_); intro w41 hw; have hg : wc.grownBy w41 (some go30) := (by rw [hw]; exact HP40.2); have hp_ : Kd.R (Kd.int .i64) 2 w41 w.heap.size (fun _ => True) (.slice (some ⟨go30, 0, none⟩) t796.length co39) y803 := (by rw [hw, Ny803.out]; exact HP40.1); clear HP40; replace HO_11 := Aside0.mk (hp_); replace HB := Aside0.mk ((m_63 : Below w.heap.size w w41)); clear hg hw hp_; have p804 : 0 ≤ ((ji31) : Int) := of_decide_eq_true m_4; have q804 : (ji31) < (y803.length : Int) := m_35; have ql804 : (((ji31) : Int) < ((t796.length : Int) : Int)) = True := eq_true (of_decide_eq_true m_4); obtain ⟨ad804, e804, hx804_0⟩ := Kd.at_int (Kd.R_reads' HO_11.out).2.2 (ji31) p804 q804; obtain rfl : (⟨go30, 0, none⟩ : Addr) = ad804 := (by injection e804); (first | simp only [add_plain] at hx804_0 | simp only [add_at] at hx804_0 | simp only [Addr.add, Nat.zero_add] at hx804_0 | skip); replace p804 := eq_true p804; have p34 : 0 ≤ ((ji31) : Int) := of_decide_eq_true m_4; have q34 : ((ji31) : Int) < ((t796.length : Int) : Int) := of_decide_eq_true m_4; obtain ⟨hx34_0, hf34_0⟩ := Kd.R_celln 0 HO_11.out ((ji31) : Int) p34 q34; obtain ⟨hy42_, hz42_⟩ := Kd.R_celln 0 HO_11.out ((ji31) : Int) (of_decide_eq_true m_4) (of_decide_eq_true m_4); have HP42 := Kd.R_putg HO_11.out ((ji31) : Int) (wrap64 ((rd y803 (ji31)) + 1))) | ((with_reducible refine gate_store (t := 2) (p := 89) rfl ?_); (try (rw [drewN_self w41]; generalize hq_ : World.drewN w41 _ = w41; replace HO_11 := Aside0.mk (Kd.R_at hq_ HO_11.out); replace HB := Aside0.mk (below_at hq_ HB.out); clear hq_; (try (obtain ⟨hy42_, hz42_⟩ := Kd.R_celln 0 HO_11.out ((ji31) : Int) (of_decide_eq_true m_4) (of_decide_eq_true m_4))); (try (have HP42 := Kd.R_putg HO_11.out ((ji31) : Int) (wrap64 ((rd y803 (ji31)) + 1)))))); refine store_event (t := 2) (p := 89) (v := ?vo_w43) (w1 := (w41.setCell ⟨go30, ((ji31) : Int).toNat, none⟩ (.int .i64 (wrap64 ((rd y803 (ji31)) + 1))))) ?hg ?ho ?hn ?hr ?_; (case ho => rfl); (case hg => rfl); (case hn => rfl); (case hr => exact hr_); intro w43 hw; have hg : w41.grownBy w43 (some go30) := (by rw [hw]; exact HP42.2); have hp_ : Kd.R (Kd.int .i64) 2 w43 w.heap.size (fun _ => True) (.slice (some ⟨go30, 0, none⟩) t796.length co39) y805 := (by rw [hw, Ny805.out]; exact HP42.1); clear HP42; replace HO_11 := Aside0.mk (hp_); replace HB := Aside0.mk ((m_63 : Below w.heap.size w w43)); clear hg hw hp_) | (go_at_call 31; refine calls_of_args (args' := #[.slice A0 l0.length c0, .slice A1 l1.length c1, .slice (some ⟨go30, 0, none⟩) y805.length co39]) m_62 ?_; (with_reducible refine (energy_Cost.calls kj16 _ _ l0 _ _ l1 _ _ y805 t806 t807 _ ?side1 ?side2 ?side3 ?side4 ?side5 ?side6 A35.out).mono ?_); (case side1 => exact cA_ (Kd.C_below HR0.out HB.out)); (case side2 => exact HC0.out); (case side3 => exact cA_ (Kd.C_below HR1.out HB.out)); (case side4 => exact HC1.out); (case side5 => exact cA_ (Kd.R_reads' HO_11.out).2.2); (case side6 => rw [show y805.length = t796.length from (Kd.R_reads' HO_11.out).1.symm]; exact (Kd.R_reads' HO_11.out).2.1); rintro e w44 ⟨rfl, hb⟩; replace HO_11 := rB_ HO_11 hb; replace HB := Aside0.mk (below_step m_1 hb); clear hb))
                repeat (go_quiet (first | ((with_reducible refine gate_store (t := 2) (p := 83) rfl ?_); (try (rw [drewN_self wc]; generalize hq_ : World.drewN wc _ = wc; replace HO_11 := Aside0.mk (Kd.R_at hq_ HO_11.out); replace HB := Aside0.mk (below_at hq_ HB.out); clear hq_; (try (obtain ⟨hy41_, hz41_⟩ := Kd.R_celln 0 HO_11.out ((ji27) : Int) (of_decide_eq_true m_4) (of_decide_eq_true m_4))); (try (have HP40 := Kd.R_putg HO_11.out ((ji27) : Int) (wrap64 ((rd t796 (ji27)) - 1)))))); refine store_event (t := 2) (p := 83) (v := ?vo_w41) (w1 := (wc.setCell ⟨go30, ((ji27) : Int).toNat, none⟩ (.int .i64 (wrap64 ((rd t796 (ji27)) - 1))))) ?hg ?ho ?hn ?hr ?_; (case ho => rfl); (case hg => rfl); (case hn => rfl); (case hr => exact hr_); intro w41 hw; have hg : wc.grownBy w41 (some go30) := (by rw [hw]; exact HP40.2); have hp_ : Kd.R (Kd.int .i64) 2 w41 w.heap.size (fun _ => True) (.slice (some ⟨go30, 0, none⟩) t796.length co39) y803 := (by rw [hw, Ny803.out]; exact HP40.1); clear HP40; replace HO_11 := Aside0.mk (hp_); replace HB := Aside0.mk ((m_63 : Below w.heap.size w w41)); clear hg hw hp_; have p804 : 0 ≤ ((ji31) : Int) := of_decide_eq_true m_4; have q804 : (ji31) < (y803.length : Int) := m_35; have ql804 : (((ji31) : Int) < ((t796.length : Int) : Int)) = True := eq_true (of_decide_eq_true m_4); obtain ⟨ad804, e804, hx804_0⟩ := Kd.at_int (Kd.R_reads' HO_11.out).2.2 (ji31) p804 q804; obtain rfl : (⟨go30, 0, none⟩ : Addr) = ad804 := (by injection e804); (first | simp only [add_plain] at hx804_0 | simp only [add_at] at hx804_0 | simp only [Addr.add, Nat.zero_add] at hx804_0 | skip); replace p804 := eq_true p804; replace q804 := eq_true q804; have p34 : 0 ≤ ((ji31) : Int) := of_decide_eq_true m_4; have q34 : ((ji31) : Int) < ((t796.length : Int) : Int) := of_decide_eq_true m_4; obtain ⟨hx34_0, hf34_0⟩ := Kd.R_celln 0 HO_11.out ((ji31) : Int) p34 q34; replace p34 := eq_true p34; replace q34 := eq_true q34; obtain ⟨hy42_, hz42_⟩ := Kd.R_celln 0 HO_11.out ((ji31) : Int) (of_decide_eq_true m_4) (of_decide_eq_true m_4); have HP42 := Kd.R_putg HO_11.out ((ji31) : Int) (wrap64 ((rd y803 (ji31)) + 1))) | ((with_reducible refine gate_store (t := 2) (p := 89) rfl ?_); (try (rw [drewN_self w41]; generalize hq_ : World.drewN w41 _ = w41; replace HO_11 := Aside0.mk (Kd.R_at hq_ HO_11.out); replace HB := Aside0.mk (below_at hq_ HB.out); clear hq_; (try (obtain ⟨hy42_, hz42_⟩ := Kd.R_celln 0 HO_11.out ((ji31) : Int) (of_decide_eq_true m_4) (of_decide_eq_true m_4))); (try (have HP42 := Kd.R_putg HO_11.out ((ji31) : Int) (wrap64 ((rd y803 (ji31)) + 1)))))); refine store_event (t := 2) (p := 89) (v := ?vo_w43) (w1 := (w41.setCell ⟨go30, ((ji31) : Int).toNat, none⟩ (.int .i64 (wrap64 ((rd y803 (ji31)) + 1))))) ?hg ?ho ?hn ?hr ?_; (case ho => rfl); (case hg => rfl); (case hn => rfl); (case hr => exact hr_); intro w43 hw; have hg : w41.grownBy w43 (some go30) := (by rw [hw]; exact HP42.2); have hp_ : Kd.R (Kd.int .i64) 2 w43 w.heap.size (fun _ => True) (.slice (some ⟨go30, 0, none⟩) t796.length co39) y805 := (by rw [hw, Ny805.out]; exact HP42.1); clear HP42; replace HO_11 := Aside0.mk (hp_); replace HB := Aside0.mk ((m_63 : Below w.heap.size w w43)); clear hg hw hp_) | (go_at_call 31; refine calls_of_args (args' := #[.slice A0 l0.length c0, .slice A1 l1.length c1, .slice (some ⟨go30, 0, none⟩) y805.length co39]) m_62 ?_; (with_reducible refine (energy_Cost.calls kj16 _ _ l0 _ _ l1 _ _ y805 t806 t807 _ ?side1 ?side2 ?side3 ?side4 ?side5 ?side6 A35.out).mono ?_); (case side1 => exact cA_ (Kd.C_below HR0.out HB.out)); (case side2 => exact HC0.out); (case side3 => exact cA_ (Kd.C_below HR1.out HB.out)); (case side4 => exact HC1.out); (case side5 => exact cA_ (Kd.R_reads' HO_11.out).2.2); (case side6 => rw [show y805.length = t796.length from (Kd.R_reads' HO_11.out).1.symm]; exact (Kd.R_reads' HO_11.out).2.1); rintro e w44 ⟨rfl, hb⟩; replace HO_11 := rB_ HO_11 hb; replace HB := Aside0.mk (below_step m_1 hb); clear hb)); try go_wp2_with (first | ((with_reducible refine gate_store (t := 2) (p := 83) rfl ?_); (try (rw [drewN_self wc]; generalize hq_ : World.drewN wc _ = wc; replace HO_11 := Aside0.mk (Kd.R_at hq_ HO_11.out); replace HB := Aside0.mk (below_at hq_ HB.out); clear hq_; (try (obtain ⟨hy41_, hz41_⟩ := Kd.R_celln 0 HO_11.out ((ji27) : Int) (of_decide_eq_true m_4) (of_decide_eq_true m_4))); (try (have HP40 := Kd.R_putg HO_11.out ((ji27) : Int) (wrap64 ((rd t796 (ji27)) - 1)))))); refine store_event (t := 2) (p := 83) (v := ?vo_w41) (w1 := (wc.setCell ⟨go30, ((ji27) : Int).toNat, none⟩ (.int .i64 (wrap64 ((rd t796 (ji27)) - 1))))) ?hg ?ho ?hn ?hr ?_; (case ho => rfl); (case hg => rfl); (case hn => rfl); (case hr => exact hr_); intro w41 hw; have hg : wc.grownBy w41 (some go30) := (by rw [hw]; exact HP40.2); have hp_ : Kd.R (Kd.int .i64) 2 w41 w.heap.size (fun _ => True) (.slice (some ⟨go30, 0, none⟩) t796.length co39) y803 := (by rw [hw, Ny803.out]; exact HP40.1); clear HP40; replace HO_11 := Aside0.mk (hp_); replace HB := Aside0.mk ((m_63 : Below w.heap.size w w41)); clear hg hw hp_; have p804 : 0 ≤ ((ji31) : Int) := of_decide_eq_true m_4; have q804 : (ji31) < (y803.length : Int) := m_35; have ql804 : (((ji31) : Int) < ((t796.length : Int) : Int)) = True := eq_true (of_decide_eq_true m_4); obtain ⟨ad804, e804, hx804_0⟩ := Kd.at_int (Kd.R_reads' HO_11.out).2.2 (ji31) p804 q804; obtain rfl : (⟨go30, 0, none⟩ : Addr) = ad804 := (by injection e804); (first | simp only [add_plain] at hx804_0 | simp only [add_at] at hx804_0 | simp only [Addr.add, Nat.zero_add] at hx804_0 | skip); replace p804 := eq_true p804; replace q804 := eq_true q804; have p34 : 0 ≤ ((ji31) : Int) := of_decide_eq_true m_4; have q34 : ((ji31) : Int) < ((t796.length : Int) : Int) := of_decide_eq_true m_4; obtain ⟨hx34_0, hf34_0⟩ := Kd.R_celln 0 HO_11.out ((ji31) : Int) p34 q34; replace p34 := eq_true p34; replace q34 := eq_true q34; obtain ⟨hy42_, hz42_⟩ := Kd.R_celln 0 HO_11.out ((ji31) : Int) (of_decide_eq_true m_4) (of_decide_eq_true m_4); have HP42 := Kd.R_putg HO_11.out ((ji31) : Int) (wrap64 ((rd y803 (ji31)) + 1))) | ((with_reducible refine gate_store (t := 2) (p := 89) rfl ?_); (try (rw [drewN_self w41]; generalize hq_ : World.drewN w41 _ = w41; replace HO_11 := Aside0.mk (Kd.R_at hq_ HO_11.out); replace HB := Aside0.mk (below_at hq_ HB.out); clear hq_; (try (obtain ⟨hy42_, hz42_⟩ := Kd.R_celln 0 HO_11.out ((ji31) : Int) (of_decide_eq_true m_4) (of_decide_eq_true m_4))); (try (have HP42 := Kd.R_putg HO_11.out ((ji31) : Int) (wrap64 ((rd y803 (ji31)) + 1)))))); refine store_event (t := 2) (p := 89) (v := ?vo_w43) (w1 := (w41.setCell ⟨go30, ((ji31) : Int).toNat, none⟩ (.int .i64 (wrap64 ((rd y803 (ji31)) + 1))))) ?hg ?ho ?hn ?hr ?_; (case ho => rfl); (case hg => rfl); (case hn => rfl); (case hr => exact hr_); intro w43 hw; have hg : w41.grownBy w43 (some go30) := (by rw [hw]; exact HP42.2); have hp_ : Kd.R (Kd.int .i64) 2 w43 w.heap.size (fun _ => True) (.slice (some ⟨go30, 0, none⟩) t796.length co39) y805 := (by rw [hw, Ny805.out]; exact HP42.1); clear HP42; replace HO_11 := Aside0.mk (hp_); replace HB := Aside0.mk ((m_63 : Below w.heap.size w w43)); clear hg hw hp_) | (go_at_call 31; refine calls_of_args (args' := #[.slice A0 l0.length c0, .slice A1 l1.length c1, .slice (some ⟨go30, 0, none⟩) y805.length co39]) m_62 ?_; (with_reducible refine (energy_Cost.calls kj16 _ _ l0 _ _ l1 _ _ y805 t806 t807 _ ?side1 ?side2 ?side3 ?side4 ?side5 ?side6 A35.out).mono ?_); (case side1 => exact cA_ (Kd.C_below HR0.out HB.out)); (case side2 => exact HC0.out); (case side3 => exact cA_ (Kd.C_below HR1.out HB.out)); (case side4 => exact HC1.out); (case side5 => exact cA_ (Kd.R_reads' HO_11.out).2.2); (case side6 => rw [show y805.length = t796.length from (Kd.R_reads' HO_11.out).1.symm]; exact (Kd.R_reads' HO_11.out).2.1); rintro e w44 ⟨rfl, hb⟩; replace HB := Aside0.mk (below_step m_1 hb); clear hb)))
                go_ret
                exact ⟨m_91, m_1⟩
               ·rw [if_neg c38] at H
                have c38b0 : decide (t800 < t806) = false := decide_eq_false c38
                clear c38
                by_cases c45 : t806 = t800
                ·rw [if_pos c45] at H
                 have c45b0 : (t806 == t800) = true := beq_iff_eq.mpr c45
                 clear c45
                 obtain rfl := Option.some.inj H
                 obtain ⟨Ao46, co46, eo46⟩ := Kd.R_slice HO_11.out
                 subst eo46
                 have p802 : 0 ≤ ((ji27) : Int) := of_decide_eq_true m_4
                 have q802 : (ji27) < (t796.length : Int) := of_decide_eq_true m_4
                 obtain ⟨ad802, e802, hx802_0⟩ := Kd.at_int (Kd.R_reads' HO_11.out).2.2 (ji27) p802 q802
                 cases e802
                 replace p802 := eq_true p802
                 replace q802 := eq_true q802
                 have p30 : 0 ≤ ((ji27) : Int) := of_decide_eq_true m_4
                 have q30 : ((ji27) : Int) < ((t796.length : Int) : Int) := of_decide_eq_true m_4
                 obtain ⟨go30, co30, eo30, gb30, gl30, cl30, HG30⟩ := Kd.R_form HO_11.out (by omega)
                 (first | cases eo30 | (injection eo30 with ea_ en_ ec_; (first | subst ea_ | (injection ea_ with ea_; subst ea_)); subst ec_; clear en_))
                 have GB30 := Aside0.mk gb30
                 clear gb30 gl30 HG30
                 (first | simp only [add_plain] at hx802_0 | skip)
                 obtain ⟨hx30_0, hf30_0⟩ := Kd.R_celln 0 HO_11.out ((ji27) : Int) p30 q30
                 go_wp2_with (first | ((with_reducible refine gate_store (t := 2) (p := 83) rfl ?_); (try (rw [drewN_self wc]; generalize hq_ : World.drewN wc _ = wc; replace HO_11 := Aside0.mk (Kd.R_at hq_ HO_11.out); replace HB := Aside0.mk (below_at hq_ HB.out); clear hq_; (try (obtain ⟨hy41_, hz41_⟩ := Kd.R_celln 0 HO_11.out ((ji27) : Int) (of_decide_eq_true m_4) (of_decide_eq_true m_4))); (try (have HP47 := Kd.R_putg HO_11.out ((ji27) : Int) (wrap64 ((rd t796 (ji27)) - 1)))))); refine store_event (t := 2) (p := 83) (v := ?vo_w48) (w1 := (wc.setCell ⟨go30, ((ji27) : Int).toNat, none⟩ (.int .i64 (wrap64 ((rd t796 (ji27)) - 1))))) ?hg ?ho ?hn ?hr ?_; (case ho => rfl); (case hg => rfl); (case hn => rfl); (case hr => exact hr_); intro w48 hw; have hg : wc.grownBy w48 (some go30) := (by rw [hw]; exact HP47.2); have hp_ : Kd.R (Kd.int .i64) 2 w48 w.heap.size (fun _ => True) (.slice (some ⟨go30, 0, none⟩) t796.length co46) y803 := (by rw [hw, Ny803.out]; exact HP47.1); clear HP47; replace HO_11 := Aside0.mk (hp_); replace HB := Aside0.mk ((m_63 : Below w.heap.size w w48)); clear hg hw hp_; have p804 : 0 ≤ ((ji31) : Int) := of_decide_eq_true m_4; have q804 : (ji31) < (y803.length : Int) := m_35; have ql804 : (((ji31) : Int) < ((t796.length : Int) : Int)) = True := eq_true (of_decide_eq_true m_4); obtain ⟨ad804, e804, hx804_0⟩ := Kd.at_int (Kd.R_reads' HO_11.out).2.2 (ji31) p804 q804; obtain rfl : (⟨go30, 0, none⟩ : Addr) = ad804 := (by injection e804); (first | simp only [add_plain] at hx804_0 | simp only [add_at] at hx804_0 | simp only [Addr.add, Nat.zero_add] at hx804_0 | skip); replace p804 := eq_true p804; have p34 : 0 ≤ ((ji31) : Int) := of_decide_eq_true m_4; have q34 : ((ji31) : Int) < ((t796.length : Int) : Int) := of_decide_eq_true m_4; obtain ⟨hx34_0, hf34_0⟩ := Kd.R_celln 0 HO_11.out ((ji31) : Int) p34 q34; obtain ⟨hy49_, hz49_⟩ := Kd.R_celln 0 HO_11.out ((ji31) : Int) (of_decide_eq_true m_4) (of_decide_eq_true m_4); have HP49 := Kd.R_putg HO_11.out ((ji31) : Int) (wrap64 ((rd y803 (ji31)) + 1))) | ((with_reducible refine gate_store (t := 2) (p := 89) rfl ?_); (try (rw [drewN_self w48]; generalize hq_ : World.drewN w48 _ = w48; replace HO_11 := Aside0.mk (Kd.R_at hq_ HO_11.out); replace HB := Aside0.mk (below_at hq_ HB.out); clear hq_; (try (obtain ⟨hy49_, hz49_⟩ := Kd.R_celln 0 HO_11.out ((ji31) : Int) (of_decide_eq_true m_4) (of_decide_eq_true m_4))); (try (have HP49 := Kd.R_putg HO_11.out ((ji31) : Int) (wrap64 ((rd y803 (ji31)) + 1)))))); refine store_event (t := 2) (p := 89) (v := ?vo_w50) (w1 := (w48.setCell ⟨go30, ((ji31) : Int).toNat, none⟩ (.int .i64 (wrap64 ((rd y803 (ji31)) + 1))))) ?hg ?ho ?hn ?hr ?_; (case ho => rfl); (case hg => rfl); (case hn => rfl); (case hr => exact hr_); intro w50 hw; have hg : w48.grownBy w50 (some go30) := (by rw [hw]; exact HP49.2); have hp_ : Kd.R (Kd.int .i64) 2 w50 w.heap.size (fun _ => True) (.slice (some ⟨go30, 0, none⟩) t796.length co46) y805 := (by rw [hw, Ny805.out]; exact HP49.1); clear HP49; replace HO_11 := Aside0.mk (hp_); replace HB := Aside0.mk ((m_63 : Below w.heap.size w w50)); clear hg hw hp_) | (go_at_call 31; refine calls_of_args (args' := #[.slice A0 l0.length c0, .slice A1 l1.length c1, .slice (some ⟨go30, 0, none⟩) y805.length co46]) m_62 ?_; (with_reducible refine (energy_Cost.calls kj16 _ _ l0 _ _ l1 _ _ y805 t806 t807 _ ?side1 ?side2 ?side3 ?side4 ?side5 ?side6 A35.out).mono ?_); (case side1 => exact cA_ (Kd.C_below HR0.out HB.out)); (case side2 => exact HC0.out); (case side3 => exact cA_ (Kd.C_below HR1.out HB.out)); (case side4 => exact HC1.out); (case side5 => exact cA_ (Kd.R_reads' HO_11.out).2.2); (case side6 => rw [show y805.length = t796.length from (Kd.R_reads' HO_11.out).1.symm]; exact (Kd.R_reads' HO_11.out).2.1); rintro e w51 ⟨rfl, hb⟩; replace HO_11 := rB_ HO_11 hb; replace HB := Aside0.mk (below_step m_1 hb); clear hb))
                 repeat (go_quiet (first | ((with_reducible refine gate_store (t := 2) (p := 83) rfl ?_); (try (rw [drewN_self wc]; generalize hq_ : World.drewN wc _ = wc; replace HO_11 := Aside0.mk (Kd.R_at hq_ HO_11.out); replace HB := Aside0.mk (below_at hq_ HB.out); clear hq_; (try (obtain ⟨hy41_, hz41_⟩ := Kd.R_celln 0 HO_11.out ((ji27) : Int) (of_decide_eq_true m_4) (of_decide_eq_true m_4))); (try (have HP47 := Kd.R_putg HO_11.out ((ji27) : Int) (wrap64 ((rd t796 (ji27)) - 1)))))); refine store_event (t := 2) (p := 83) (v := ?vo_w48) (w1 := (wc.setCell ⟨go30, ((ji27) : Int).toNat, none⟩ (.int .i64 (wrap64 ((rd t796 (ji27)) - 1))))) ?hg ?ho ?hn ?hr ?_; (case ho => rfl); (case hg => rfl); (case hn => rfl); (case hr => exact hr_); intro w48 hw; have hg : wc.grownBy w48 (some go30) := (by rw [hw]; exact HP47.2); have hp_ : Kd.R (Kd.int .i64) 2 w48 w.heap.size (fun _ => True) (.slice (some ⟨go30, 0, none⟩) t796.length co46) y803 := (by rw [hw, Ny803.out]; exact HP47.1); clear HP47; replace HO_11 := Aside0.mk (hp_); replace HB := Aside0.mk ((m_63 : Below w.heap.size w w48)); clear hg hw hp_; have p804 : 0 ≤ ((ji31) : Int) := of_decide_eq_true m_4; have q804 : (ji31) < (y803.length : Int) := m_35; have ql804 : (((ji31) : Int) < ((t796.length : Int) : Int)) = True := eq_true (of_decide_eq_true m_4); obtain ⟨ad804, e804, hx804_0⟩ := Kd.at_int (Kd.R_reads' HO_11.out).2.2 (ji31) p804 q804; obtain rfl : (⟨go30, 0, none⟩ : Addr) = ad804 := (by injection e804); (first | simp only [add_plain] at hx804_0 | simp only [add_at] at hx804_0 | simp only [Addr.add, Nat.zero_add] at hx804_0 | skip); replace p804 := eq_true p804; replace q804 := eq_true q804; have p34 : 0 ≤ ((ji31) : Int) := of_decide_eq_true m_4; have q34 : ((ji31) : Int) < ((t796.length : Int) : Int) := of_decide_eq_true m_4; obtain ⟨hx34_0, hf34_0⟩ := Kd.R_celln 0 HO_11.out ((ji31) : Int) p34 q34; replace p34 := eq_true p34; replace q34 := eq_true q34; obtain ⟨hy49_, hz49_⟩ := Kd.R_celln 0 HO_11.out ((ji31) : Int) (of_decide_eq_true m_4) (of_decide_eq_true m_4); have HP49 := Kd.R_putg HO_11.out ((ji31) : Int) (wrap64 ((rd y803 (ji31)) + 1))) | ((with_reducible refine gate_store (t := 2) (p := 89) rfl ?_); (try (rw [drewN_self w48]; generalize hq_ : World.drewN w48 _ = w48; replace HO_11 := Aside0.mk (Kd.R_at hq_ HO_11.out); replace HB := Aside0.mk (below_at hq_ HB.out); clear hq_; (try (obtain ⟨hy49_, hz49_⟩ := Kd.R_celln 0 HO_11.out ((ji31) : Int) (of_decide_eq_true m_4) (of_decide_eq_true m_4))); (try (have HP49 := Kd.R_putg HO_11.out ((ji31) : Int) (wrap64 ((rd y803 (ji31)) + 1)))))); refine store_event (t := 2) (p := 89) (v := ?vo_w50) (w1 := (w48.setCell ⟨go30, ((ji31) : Int).toNat, none⟩ (.int .i64 (wrap64 ((rd y803 (ji31)) + 1))))) ?hg ?ho ?hn ?hr ?_; (case ho => rfl); (case hg => rfl); (case hn => rfl); (case hr => exact hr_); intro w50 hw; have hg : w48.grownBy w50 (some go30) := (by rw [hw]; exact HP49.2); have hp_ : Kd.R (Kd.int .i64) 2 w50 w.heap.size (fun _ => True) (.slice (some ⟨go30, 0, none⟩) t796.length co46) y805 := (by rw [hw, Ny805.out]; exact HP49.1); clear HP49; replace HO_11 := Aside0.mk (hp_); replace HB := Aside0.mk ((m_63 : Below w.heap.size w w50)); clear hg hw hp_) | (go_at_call 31; refine calls_of_args (args' := #[.slice A0 l0.length c0, .slice A1 l1.length c1, .slice (some ⟨go30, 0, none⟩) y805.length co46]) m_62 ?_; (with_reducible refine (energy_Cost.calls kj16 _ _ l0 _ _ l1 _ _ y805 t806 t807 _ ?side1 ?side2 ?side3 ?side4 ?side5 ?side6 A35.out).mono ?_); (case side1 => exact cA_ (Kd.C_below HR0.out HB.out)); (case side2 => exact HC0.out); (case side3 => exact cA_ (Kd.C_below HR1.out HB.out)); (case side4 => exact HC1.out); (case side5 => exact cA_ (Kd.R_reads' HO_11.out).2.2); (case side6 => rw [show y805.length = t796.length from (Kd.R_reads' HO_11.out).1.symm]; exact (Kd.R_reads' HO_11.out).2.1); rintro e w51 ⟨rfl, hb⟩; replace HO_11 := rB_ HO_11 hb; replace HB := Aside0.mk (below_step m_1 hb); clear hb)); try go_wp2_with (first | ((with_reducible refine gate_store (t := 2) (p := 83) rfl ?_); (try (rw [drewN_self wc]; generalize hq_ : World.drewN wc _ = wc; replace HO_11 := Aside0.mk (Kd.R_at hq_ HO_11.out); replace HB := Aside0.mk (below_at hq_ HB.out); clear hq_; (try (obtain ⟨hy41_, hz41_⟩ := Kd.R_celln 0 HO_11.out ((ji27) : Int) (of_decide_eq_true m_4) (of_decide_eq_true m_4))); (try (have HP47 := Kd.R_putg HO_11.out ((ji27) : Int) (wrap64 ((rd t796 (ji27)) - 1)))))); refine store_event (t := 2) (p := 83) (v := ?vo_w48) (w1 := (wc.setCell ⟨go30, ((ji27) : Int).toNat, none⟩ (.int .i64 (wrap64 ((rd t796 (ji27)) - 1))))) ?hg ?ho ?hn ?hr ?_; (case ho => rfl); (case hg => rfl); (case hn => rfl); (case hr => exact hr_); intro w48 hw; have hg : wc.grownBy w48 (some go30) := (by rw [hw]; exact HP47.2); have hp_ : Kd.R (Kd.int .i64) 2 w48 w.heap.size (fun _ => True) (.slice (some ⟨go30, 0, none⟩) t796.length co46) y803 := (by rw [hw, Ny803.out]; exact HP47.1); clear HP47; replace HO_11 := Aside0.mk (hp_); replace HB := Aside0.mk ((m_63 : Below w.heap.size w w48)); clear hg hw hp_; have p804 : 0 ≤ ((ji31) : Int) := of_decide_eq_true m_4; have q804 : (ji31) < (y803.length : Int) := m_35; have ql804 : (((ji31) : Int) < ((t796.length : Int) : Int)) = True := eq_true (of_decide_eq_true m_4); obtain ⟨ad804, e804, hx804_0⟩ := Kd.at_int (Kd.R_reads' HO_11.out).2.2 (ji31) p804 q804; obtain rfl : (⟨go30, 0, none⟩ : Addr) = ad804 := (by injection e804); (first | simp only [add_plain] at hx804_0 | simp only [add_at] at hx804_0 | simp only [Addr.add, Nat.zero_add] at hx804_0 | skip); replace p804 := eq_true p804; replace q804 := eq_true q804; have p34 : 0 ≤ ((ji31) : Int) := of_decide_eq_true m_4; have q34 : ((ji31) : Int) < ((t796.length : Int) : Int) := of_decide_eq_true m_4; obtain ⟨hx34_0, hf34_0⟩ := Kd.R_celln 0 HO_11.out ((ji31) : Int) p34 q34; replace p34 := eq_true p34; replace q34 := eq_true q34; obtain ⟨hy49_, hz49_⟩ := Kd.R_celln 0 HO_11.out ((ji31) : Int) (of_decide_eq_true m_4) (of_decide_eq_true m_4); have HP49 := Kd.R_putg HO_11.out ((ji31) : Int) (wrap64 ((rd y803 (ji31)) + 1))) | ((with_reducible refine gate_store (t := 2) (p := 89) rfl ?_); (try (rw [drewN_self w48]; generalize hq_ : World.drewN w48 _ = w48; replace HO_11 := Aside0.mk (Kd.R_at hq_ HO_11.out); replace HB := Aside0.mk (below_at hq_ HB.out); clear hq_; (try (obtain ⟨hy49_, hz49_⟩ := Kd.R_celln 0 HO_11.out ((ji31) : Int) (of_decide_eq_true m_4) (of_decide_eq_true m_4))); (try (have HP49 := Kd.R_putg HO_11.out ((ji31) : Int) (wrap64 ((rd y803 (ji31)) + 1)))))); refine store_event (t := 2) (p := 89) (v := ?vo_w50) (w1 := (w48.setCell ⟨go30, ((ji31) : Int).toNat, none⟩ (.int .i64 (wrap64 ((rd y803 (ji31)) + 1))))) ?hg ?ho ?hn ?hr ?_; (case ho => rfl); (case hg => rfl); (case hn => rfl); (case hr => exact hr_); intro w50 hw; have hg : w48.grownBy w50 (some go30) := (by rw [hw]; exact HP49.2); have hp_ : Kd.R (Kd.int .i64) 2 w50 w.heap.size (fun _ => True) (.slice (some ⟨go30, 0, none⟩) t796.length co46) y805 := (by rw [hw, Ny805.out]; exact HP49.1); clear HP49; replace HO_11 := Aside0.mk (hp_); replace HB := Aside0.mk ((m_63 : Below w.heap.size w w50)); clear hg hw hp_) | (go_at_call 31; refine calls_of_args (args' := #[.slice A0 l0.length c0, .slice A1 l1.length c1, .slice (some ⟨go30, 0, none⟩) y805.length co46]) m_62 ?_; (with_reducible refine (energy_Cost.calls kj16 _ _ l0 _ _ l1 _ _ y805 t806 t807 _ ?side1 ?side2 ?side3 ?side4 ?side5 ?side6 A35.out).mono ?_); (case side1 => exact cA_ (Kd.C_below HR0.out HB.out)); (case side2 => exact HC0.out); (case side3 => exact cA_ (Kd.C_below HR1.out HB.out)); (case side4 => exact HC1.out); (case side5 => exact cA_ (Kd.R_reads' HO_11.out).2.2); (case side6 => rw [show y805.length = t796.length from (Kd.R_reads' HO_11.out).1.symm]; exact (Kd.R_reads' HO_11.out).2.1); rintro e w51 ⟨rfl, hb⟩; replace HB := Aside0.mk (below_step m_1 hb); clear hb)))
                 go_ret
                 exact ⟨m_91, m_1⟩
                ·rw [if_neg c45] at H
                 cases H
              ·rw [if_neg c37] at H
               have c37b1 : (t807 != 0) = true := bne_iff_ne.mpr c37
               obtain rfl := Option.some.inj H
               obtain ⟨Ao58, co58, eo58⟩ := Kd.R_slice HO_11.out
               subst eo58
               have p802 : 0 ≤ ((ji27) : Int) := of_decide_eq_true m_4
               have q802 : (ji27) < (t796.length : Int) := of_decide_eq_true m_4
               obtain ⟨ad802, e802, hx802_0⟩ := Kd.at_int (Kd.R_reads' HO_11.out).2.2 (ji27) p802 q802
               cases e802
               replace p802 := eq_true p802
               replace q802 := eq_true q802
               have p30 : 0 ≤ ((ji27) : Int) := of_decide_eq_true m_4
               have q30 : ((ji27) : Int) < ((t796.length : Int) : Int) := of_decide_eq_true m_4
               obtain ⟨go30, co30, eo30, gb30, gl30, cl30, HG30⟩ := Kd.R_form HO_11.out (by omega)
               (first | cases eo30 | (injection eo30 with ea_ en_ ec_; (first | subst ea_ | (injection ea_ with ea_; subst ea_)); subst ec_; clear en_))
               have GB30 := Aside0.mk gb30
               clear gb30 gl30 HG30
               (first | simp only [add_plain] at hx802_0 | skip)
               obtain ⟨hx30_0, hf30_0⟩ := Kd.R_celln 0 HO_11.out ((ji27) : Int) p30 q30
               go_wp2_with (first | ((with_reducible refine gate_store (t := 2) (p := 83) rfl ?_); (try (rw [drewN_self wc]; generalize hq_ : World.drewN wc _ = wc; replace HO_11 := Aside0.mk (Kd.R_at hq_ HO_11.out); replace HB := Aside0.mk (below_at hq_ HB.out); clear hq_; (try (obtain ⟨hy41_, hz41_⟩ := Kd.R_celln 0 HO_11.out ((ji27) : Int) (of_decide_eq_true m_4) (of_decide_eq_true m_4))); (try (have HP59 := Kd.R_putg HO_11.out ((ji27) : Int) (wrap64 ((rd t796 (ji27)) - 1)))))); refine store_event (t := 2) (p := 83) (v := ?vo_w60) (w1 := (wc.setCell ⟨go30, ((ji27) : Int).toNat, none⟩ (.int .i64 (wrap64 ((rd t796 (ji27)) - 1))))) ?hg ?ho ?hn ?hr ?_; (case ho => rfl); (case hg => rfl); (case hn => rfl); (case hr => exact hr_); intro w60 hw; have hg : wc.grownBy w60 (some go30) := (by rw [hw]; exact HP59.2); have hp_ : Kd.R (Kd.int .i64) 2 w60 w.heap.size (fun _ => True) (.slice (some ⟨go30, 0, none⟩) t796.length co58) y803 := (by rw [hw, Ny803.out]; exact HP59.1); clear HP59; replace HO_11 := Aside0.mk (hp_); replace HB := Aside0.mk ((m_63 : Below w.heap.size w w60)); clear hg hw hp_; have p804 : 0 ≤ ((ji31) : Int) := of_decide_eq_true m_4; have q804 : (ji31) < (y803.length : Int) := m_35; have ql804 : (((ji31) : Int) < ((t796.length : Int) : Int)) = True := eq_true (of_decide_eq_true m_4); obtain ⟨ad804, e804, hx804_0⟩ := Kd.at_int (Kd.R_reads' HO_11.out).2.2 (ji31) p804 q804; obtain rfl : (⟨go30, 0, none⟩ : Addr) = ad804 := (by injection e804); (first | simp only [add_plain] at hx804_0 | simp only [add_at] at hx804_0 | simp only [Addr.add, Nat.zero_add] at hx804_0 | skip); replace p804 := eq_true p804; have p34 : 0 ≤ ((ji31) : Int) := of_decide_eq_true m_4; have q34 : ((ji31) : Int) < ((t796.length : Int) : Int) := of_decide_eq_true m_4; obtain ⟨hx34_0, hf34_0⟩ := Kd.R_celln 0 HO_11.out ((ji31) : Int) p34 q34; obtain ⟨hy61_, hz61_⟩ := Kd.R_celln 0 HO_11.out ((ji31) : Int) (of_decide_eq_true m_4) (of_decide_eq_true m_4); have HP61 := Kd.R_putg HO_11.out ((ji31) : Int) (wrap64 ((rd y803 (ji31)) + 1))) | ((with_reducible refine gate_store (t := 2) (p := 89) rfl ?_); (try (rw [drewN_self w60]; generalize hq_ : World.drewN w60 _ = w60; replace HO_11 := Aside0.mk (Kd.R_at hq_ HO_11.out); replace HB := Aside0.mk (below_at hq_ HB.out); clear hq_; (try (obtain ⟨hy61_, hz61_⟩ := Kd.R_celln 0 HO_11.out ((ji31) : Int) (of_decide_eq_true m_4) (of_decide_eq_true m_4))); (try (have HP61 := Kd.R_putg HO_11.out ((ji31) : Int) (wrap64 ((rd y803 (ji31)) + 1)))))); refine store_event (t := 2) (p := 89) (v := ?vo_w62) (w1 := (w60.setCell ⟨go30, ((ji31) : Int).toNat, none⟩ (.int .i64 (wrap64 ((rd y803 (ji31)) + 1))))) ?hg ?ho ?hn ?hr ?_; (case ho => rfl); (case hg => rfl); (case hn => rfl); (case hr => exact hr_); intro w62 hw; have hg : w60.grownBy w62 (some go30) := (by rw [hw]; exact HP61.2); have hp_ : Kd.R (Kd.int .i64) 2 w62 w.heap.size (fun _ => True) (.slice (some ⟨go30, 0, none⟩) t796.length co58) y805 := (by rw [hw, Ny805.out]; exact HP61.1); clear HP61; replace HO_11 := Aside0.mk (hp_); replace HB := Aside0.mk ((m_63 : Below w.heap.size w w62)); clear hg hw hp_) | (go_at_call 31; refine calls_of_args (args' := #[.slice A0 l0.length c0, .slice A1 l1.length c1, .slice (some ⟨go30, 0, none⟩) y805.length co58]) m_62 ?_; (with_reducible refine (energy_Cost.calls kj16 _ _ l0 _ _ l1 _ _ y805 t806 t807 _ ?side1 ?side2 ?side3 ?side4 ?side5 ?side6 A35.out).mono ?_); (case side1 => exact cA_ (Kd.C_below HR0.out HB.out)); (case side2 => exact HC0.out); (case side3 => exact cA_ (Kd.C_below HR1.out HB.out)); (case side4 => exact HC1.out); (case side5 => exact cA_ (Kd.R_reads' HO_11.out).2.2); (case side6 => rw [show y805.length = t796.length from (Kd.R_reads' HO_11.out).1.symm]; exact (Kd.R_reads' HO_11.out).2.1); rintro e w63 ⟨rfl, hb⟩; replace HB := Aside0.mk (below_step m_1 hb); clear hb))
               repeat (go_quiet (first | ((with_reducible refine gate_store (t := 2) (p := 83) rfl ?_); (try (rw [drewN_self wc]; generalize hq_ : World.drewN wc _ = wc; replace HO_11 := Aside0.mk (Kd.R_at hq_ HO_11.out); replace HB := Aside0.mk (below_at hq_ HB.out); clear hq_; (try (obtain ⟨hy41_, hz41_⟩ := Kd.R_celln 0 HO_11.out ((ji27) : Int) (of_decide_eq_true m_4) (of_decide_eq_true m_4))); (try (have HP59 := Kd.R_putg HO_11.out ((ji27) : Int) (wrap64 ((rd t796 (ji27)) - 1)))))); refine store_event (t := 2) (p := 83) (v := ?vo_w60) (w1 := (wc.setCell ⟨go30, ((ji27) : Int).toNat, none⟩ (.int .i64 (wrap64 ((rd t796 (ji27)) - 1))))) ?hg ?ho ?hn ?hr ?_; (case ho => rfl); (case hg => rfl); (case hn => rfl); (case hr => exact hr_); intro w60 hw; have hg : wc.grownBy w60 (some go30) := (by rw [hw]; exact HP59.2); have hp_ : Kd.R (Kd.int .i64) 2 w60 w.heap.size (fun _ => True) (.slice (some ⟨go30, 0, none⟩) t796.length co58) y803 := (by rw [hw, Ny803.out]; exact HP59.1); clear HP59; replace HO_11 := Aside0.mk (hp_); replace HB := Aside0.mk ((m_63 : Below w.heap.size w w60)); clear hg hw hp_; have p804 : 0 ≤ ((ji31) : Int) := of_decide_eq_true m_4; have q804 : (ji31) < (y803.length : Int) := m_35; have ql804 : (((ji31) : Int) < ((t796.length : Int) : Int)) = True := eq_true (of_decide_eq_true m_4); obtain ⟨ad804, e804, hx804_0⟩ := Kd.at_int (Kd.R_reads' HO_11.out).2.2 (ji31) p804 q804; obtain rfl : (⟨go30, 0, none⟩ : Addr) = ad804 := (by injection e804); (first | simp only [add_plain] at hx804_0 | simp only [add_at] at hx804_0 | simp only [Addr.add, Nat.zero_add] at hx804_0 | skip); replace p804 := eq_true p804; replace q804 := eq_true q804; have p34 : 0 ≤ ((ji31) : Int) := of_decide_eq_true m_4; have q34 : ((ji31) : Int) < ((t796.length : Int) : Int) := of_decide_eq_true m_4; obtain ⟨hx34_0, hf34_0⟩ := Kd.R_celln 0 HO_11.out ((ji31) : Int) p34 q34; replace p34 := eq_true p34; replace q34 := eq_true q34; obtain ⟨hy61_, hz61_⟩ := Kd.R_celln 0 HO_11.out ((ji31) : Int) (of_decide_eq_true m_4) (of_decide_eq_true m_4); have HP61 := Kd.R_putg HO_11.out ((ji31) : Int) (wrap64 ((rd y803 (ji31)) + 1))) | ((with_reducible refine gate_store (t := 2) (p := 89) rfl ?_); (try (rw [drewN_self w60]; generalize hq_ : World.drewN w60 _ = w60; replace HO_11 := Aside0.mk (Kd.R_at hq_ HO_11.out); replace HB := Aside0.mk (below_at hq_ HB.out); clear hq_; (try (obtain ⟨hy61_, hz61_⟩ := Kd.R_celln 0 HO_11.out ((ji31) : Int) (of_decide_eq_true m_4) (of_decide_eq_true m_4))); (try (have HP61 := Kd.R_putg HO_11.out ((ji31) : Int) (wrap64 ((rd y803 (ji31)) + 1)))))); refine store_event (t := 2) (p := 89) (v := ?vo_w62) (w1 := (w60.setCell ⟨go30, ((ji31) : Int).toNat, none⟩ (.int .i64 (wrap64 ((rd y803 (ji31)) + 1))))) ?hg ?ho ?hn ?hr ?_; (case ho => rfl); (case hg => rfl); (case hn => rfl); (case hr => exact hr_); intro w62 hw; have hg : w60.grownBy w62 (some go30) := (by rw [hw]; exact HP61.2); have hp_ : Kd.R (Kd.int .i64) 2 w62 w.heap.size (fun _ => True) (.slice (some ⟨go30, 0, none⟩) t796.length co58) y805 := (by rw [hw, Ny805.out]; exact HP61.1); clear HP61; replace HO_11 := Aside0.mk (hp_); replace HB := Aside0.mk ((m_63 : Below w.heap.size w w62)); clear hg hw hp_) | (go_at_call 31; refine calls_of_args (args' := #[.slice A0 l0.length c0, .slice A1 l1.length c1, .slice (some ⟨go30, 0, none⟩) y805.length co58]) m_62 ?_; (with_reducible refine (energy_Cost.calls kj16 _ _ l0 _ _ l1 _ _ y805 t806 t807 _ ?side1 ?side2 ?side3 ?side4 ?side5 ?side6 A35.out).mono ?_); (case side1 => exact cA_ (Kd.C_below HR0.out HB.out)); (case side2 => exact HC0.out); (case side3 => exact cA_ (Kd.C_below HR1.out HB.out)); (case side4 => exact HC1.out); (case side5 => exact cA_ (Kd.R_reads' HO_11.out).2.2); (case side6 => rw [show y805.length = t796.length from (Kd.R_reads' HO_11.out).1.symm]; exact (Kd.R_reads' HO_11.out).2.1); rintro e w63 ⟨rfl, hb⟩; replace HO_11 := rB_ HO_11 hb; replace HB := Aside0.mk (below_step m_1 hb); clear hb)); try go_wp2_with (first | ((with_reducible refine gate_store (t := 2) (p := 83) rfl ?_); (try (rw [drewN_self wc]; generalize hq_ : World.drewN wc _ = wc; replace HO_11 := Aside0.mk (Kd.R_at hq_ HO_11.out); replace HB := Aside0.mk (below_at hq_ HB.out); clear hq_; (try (obtain ⟨hy41_, hz41_⟩ := Kd.R_celln 0 HO_11.out ((ji27) : Int) (of_decide_eq_true m_4) (of_decide_eq_true m_4))); (try (have HP59 := Kd.R_putg HO_11.out ((ji27) : Int) (wrap64 ((rd t796 (ji27)) - 1)))))); refine store_event (t := 2) (p := 83) (v := ?vo_w60) (w1 := (wc.setCell ⟨go30, ((ji27) : Int).toNat, none⟩ (.int .i64 (wrap64 ((rd t796 (ji27)) - 1))))) ?hg ?ho ?hn ?hr ?_; (case ho => rfl); (case hg => rfl); (case hn => rfl); (case hr => exact hr_); intro w60 hw; have hg : wc.grownBy w60 (some go30) := (by rw [hw]; exact HP59.2); have hp_ : Kd.R (Kd.int .i64) 2 w60 w.heap.size (fun _ => True) (.slice (some ⟨go30, 0, none⟩) t796.length co58) y803 := (by rw [hw, Ny803.out]; exact HP59.1); clear HP59; replace HO_11 := Aside0.mk (hp_); replace HB := Aside0.mk ((m_63 : Below w.heap.size w w60)); clear hg hw hp_; have p804 : 0 ≤ ((ji31) : Int) := of_decide_eq_true m_4; have q804 : (ji31) < (y803.length : Int) := m_35; have ql804 : (((ji31) : Int) < ((t796.length : Int) : Int)) = True := eq_true (of_decide_eq_true m_4); obtain ⟨ad804, e804, hx804_0⟩ := Kd.at_int (Kd.R_reads' HO_11.out).2.2 (ji31) p804 q804; obtain rfl : (⟨go30, 0, none⟩ : Addr) = ad804 := (by injection e804); (first | simp only [add_plain] at hx804_0 | simp only [add_at] at hx804_0 | simp only [Addr.add, Nat.zero_add] at hx804_0 | skip); replace p804 := eq_true p804; replace q804 := eq_true q804; have p34 : 0 ≤ ((ji31) : Int) := of_decide_eq_true m_4; have q34 : ((ji31) : Int) < ((t796.length : Int) : Int) := of_decide_eq_true m_4; obtain ⟨hx34_0, hf34_0⟩ := Kd.R_celln 0 HO_11.out ((ji31) : Int) p34 q34; replace p34 := eq_true p34; replace q34 := eq_true q34; obtain ⟨hy61_, hz61_⟩ := Kd.R_celln 0 HO_11.out ((ji31) : Int) (of_decide_eq_true m_4) (of_decide_eq_true m_4); have HP61 := Kd.R_putg HO_11.out ((ji31) : Int) (wrap64 ((rd y803 (ji31)) + 1))) | ((with_reducible refine gate_store (t := 2) (p := 89) rfl ?_); (try (rw [drewN_self w60]; generalize hq_ : World.drewN w60 _ = w60; replace HO_11 := Aside0.mk (Kd.R_at hq_ HO_11.out); replace HB := Aside0.mk (below_at hq_ HB.out); clear hq_; (try (obtain ⟨hy61_, hz61_⟩ := Kd.R_celln 0 HO_11.out ((ji31) : Int) (of_decide_eq_true m_4) (of_decide_eq_true m_4))); (try (have HP61 := Kd.R_putg HO_11.out ((ji31) : Int) (wrap64 ((rd y803 (ji31)) + 1)))))); refine store_event (t := 2) (p := 89) (v := ?vo_w62) (w1 := (w60.setCell ⟨go30, ((ji31) : Int).toNat, none⟩ (.int .i64 (wrap64 ((rd y803 (ji31)) + 1))))) ?hg ?ho ?hn ?hr ?_; (case ho => rfl); (case hg => rfl); (case hn => rfl); (case hr => exact hr_); intro w62 hw; have hg : w60.grownBy w62 (some go30) := (by rw [hw]; exact HP61.2); have hp_ : Kd.R (Kd.int .i64) 2 w62 w.heap.size (fun _ => True) (.slice (some ⟨go30, 0, none⟩) t796.length co58) y805 := (by rw [hw, Ny805.out]; exact HP61.1); clear HP61; replace HO_11 := Aside0.mk (hp_); replace HB := Aside0.mk ((m_63 : Below w.heap.size w w62)); clear hg hw hp_) | (go_at_call 31; refine calls_of_args (args' := #[.slice A0 l0.length c0, .slice A1 l1.length c1, .slice (some ⟨go30, 0, none⟩) y805.length co58]) m_62 ?_; (with_reducible refine (energy_Cost.calls kj16 _ _ l0 _ _ l1 _ _ y805 t806 t807 _ ?side1 ?side2 ?side3 ?side4 ?side5 ?side6 A35.out).mono ?_); (case side1 => exact cA_ (Kd.C_below HR0.out HB.out)); (case side2 => exact HC0.out); (case side3 => exact cA_ (Kd.C_below HR1.out HB.out)); (case side4 => exact HC1.out); (case side5 => exact cA_ (Kd.R_reads' HO_11.out).2.2); (case side6 => rw [show y805.length = t796.length from (Kd.R_reads' HO_11.out).1.symm]; exact (Kd.R_reads' HO_11.out).2.1); rintro e w63 ⟨rfl, hb⟩; replace HO_11 := rB_ HO_11 hb; replace HB := Aside0.mk (below_step m_1 hb); clear hb)))
               go_ret
               exact ⟨m_91, m_1⟩
             ·rw [if_neg c36] at H
              cases H
            ·rw [if_neg c33] at H
             exact absurd H (by simp)
           ·rw [if_neg c32] at H
            exact absurd H (by simp)
          ·rw [if_neg c29] at H
           exact absurd H (by simp)
         ·rw [if_neg c28] at H
          cases H
theorem exchange_plain (l0 : List S24) (l1 : List Bool) (a2 a3 a4 : Int) (h3 : 0 ≤ a3 ∧ a3 ≤ 255) (h4 : 0 ≤ a4 ∧ a4 ≤ 255) : Evs (fun k => pylonlaw28_EnergyExchange.f k l0 l1 a2 a3 a4) true := by
  have hj : Evs (fun k => pylonlaw28_EnergyExchange.j0 k l0 l1 a2 a3 a4 true) true := by
    refine Evs.succ ?_
    simp only [pylonlaw28_EnergyExchange.j0, if_true]
    exact awake_f.bind (Evs.const rfl)
  unfold pylonlaw28_EnergyExchange.f
  refine (Long_f l0 l1).bind ?_
  by_cases hL : longB l0 l1 = true
  · simp only [if_pos hL]
    exact hj
  simp only [if_neg hL]
  by_cases hA : (l0.length : Int) = 0
  · simp only [if_pos hA]
    exact hj
  simp only [if_neg hA]
  refine awake_f.bind ?_
  refine Evs.succ ?_
  simp only [pylonlaw28_EnergyExchange.j0, Bool.not_true, if_neg (show ¬ (false = true) by decide)]
  refine (alloc_f l0 l1 a2).bind ((least_f l0 l1 a2).bind ?_)
  by_cases c0 : (allocR l0 l1 a2).2 = 0
  · simp only [if_pos c0]
    obtain ⟨hc, d0, d1, d2, l, e1, hb, e2⟩ := allocR_ok c0
    obtain ⟨h5, hl1, ho⟩ := ck_ok hc
    rw [e1, e2]
    have hl := hb.len
    have hbn : ((l.length : Int) != (l0.length : Int)) = false := by simp; omega
    rw [hbn]
    refine Evs.succ ?_
    have w3 : wrap64 a3 = a3 := wrap_id (by omega) (by omega)
    have w4 : wrap64 a4 = a4 := wrap_id (by omega) (by omega)
    obtain ⟨a, ha⟩ : ∃ a : Nat, Int.tmod a3 (l0.length : Int) = (a : Int) := ⟨(Int.tmod a3 (l0.length : Int)).toNat, (Int.toNat_of_nonneg (Int.tmod_nonneg _ h3.1)).symm⟩
    obtain ⟨b, hb2⟩ : ∃ b : Nat, Int.tmod a4 (l0.length : Int) = (b : Int) := ⟨(Int.tmod a4 (l0.length : Int)).toNat, (Int.toNat_of_nonneg (Int.tmod_nonneg _ h4.1)).symm⟩
    have la : a < l0.length := by
      have := Int.tmod_lt_of_pos a3 (show (0 : Int) < (l0.length : Int) by omega)
      omega
    have lb : b < l0.length := by
      have := Int.tmod_lt_of_pos a4 (show (0 : Int) < (l0.length : Int) by omega)
      omega
    simp only [pylonlaw28_EnergyExchange.j1, if_neg (show ¬ (false = true) by decide), if_neg hA, w3, w4, ha, hb2]
    by_cases cab : (a : Int) = (b : Int)
    · simp only [if_pos cab]; exact Evs.const rfl
    · simp only [if_neg cab, if_pos (show (0 : Int) ≤ (a : Int) by omega), if_pos (show (a : Int) < (l.length : Int) by omega), if_pos (show (0 : Int) ≤ (b : Int) by omega), if_pos (show (b : Int) < (l.length : Int) by omega), Option.bind_some, Int.toNat_natCast]
      have a1 : a < l.length := by omega
      have b1 : b < l.length := by omega
      have hm := row_mem l0 l1 l ho hl1 hl hb.ok
      have ma := hm l[a] (List.getElem_mem a1)
      have mb := hm l[b] (List.getElem_mem b1)
      have r1 : rd l (a : Int) = l[a] := by simp [rd, a1]
      have hab : a ≠ b := by omega
      have r2 : rd (l.set a (l[a] - 1)) (b : Int) = l[b] := by simp [rd, b1, hab]
      rw [r1, wrap_id (x := l[a] - 1) (by omega) (by omega), r2, wrap_id (x := l[b] + 1) (by omega) (by omega)]
      refine (Cost_f l0 l1 _).bind ?_
      obtain ⟨r, hr⟩ : ∃ r, r = (l.set a (l[a] - 1)).set b (l[b] + 1) := ⟨_, rfl⟩
      rw [← hr]
      simp only [if_true]
      by_cases c1 : (costR l0 l1 r).2 = 0
      · simp only [if_pos c1]
        obtain ⟨_, g1, g2, e3⟩ := cost_ok c1
        have gs : sumL r = a2 := by
          rw [hr, sumL_set _ b _ (by simpa using b1), sumL_set l a _ a1]
          have : (l.set a (l[a] - 1))[b]'(by simpa using b1) = l[b] := by simp [hab]
          rw [this, hb.sum]
          omega
        have hle := hb.le r g1 g2 gs
        rw [e3]
        by_cases c2 : sumP l0 r > sumP l0 l
        · simp only [if_pos c2]; exact Evs.const rfl
        · simp only [if_neg c2]
          have c3 : sumP l0 r = sumP l0 l := by omega
          simp only [if_pos c3]
          refine Evs.const (congrArg some (decide_eq_true ?_))
          refine Decidable.byContradiction fun hn => ?_
          have hlt : a < b := by omega
          have ar : a < r.length := by omega
          have ht : l.take a = r.take a := by
            rw [hr, List.take_set_of_le (by omega), List.take_set_of_le (Nat.le_refl _)]
          have := hb.lex r g1 g2 gs c3.symm a a1 ar ht
          have e : r[a] = l[a] - 1 := by subst hr; simp [Ne.symm hab]
          omega
      · simp only [if_neg c1]; exact Evs.const rfl
  · simp only [if_neg c0]
    obtain ⟨e1, e2⟩ := allocR_err c0
    refine Evs.succ ?_
    simp only [pylonlaw28_EnergyExchange.j1, if_true, e1, e2]
    exact Evs.const rfl
end Go.Proofs.Ytelklgdmhnkenaa.U
namespace Go.Proofs.Ytelklgdmhnkenaa.U
open Go.ChangeShapes Go.WideShapes Go.Deep
section
variable {H : Type} {enc : TypeId × Value → H} {P : Program} {w : World} {base : Nat} {spare : Nat → Bool} {held : Bool}
def Opens (enc : TypeId × Value → H) (P : Program) (w : World) (base : Nat) (spare : Nat → Bool) (held : Bool) {α : Type} (d : Kd α) (Q : α → Prop) (t : TypeId) : Prop :=
 ∀ (fuel : Nat) (cs : List Value) (x : DataW H × List MemPlace), DataW.trod enc P w base spare held fuel t cs = some x → ∃ y, d.K w y cs ∧ Q y
theorem opens_int {t : TypeId} {k : IntKind} (ht : P.underlying t = some (.int k)) : Opens enc P w base spare held (Kd.int k) (fun n => (Lit.int k n).wf = true) t := by
 intro fuel cs x h
 obtain ⟨n, hc, _, hw⟩ := DataW.trod_int ht h
 exact ⟨n, hc, hw⟩
theorem opens_bool {t : TypeId} (ht : P.underlying t = some .bool) : Opens enc P w base spare held Kd.bool (fun _ => True) t := by
 intro fuel cs x h
 obtain ⟨b, hc, _⟩ := DataW.trod_bool ht h
 exact ⟨b, hc, trivial⟩
theorem list_of {α : Type} (m : Nat) (R : Nat → α → Prop) (h : ∀ i, i < m → ∃ y, R i y) : ∃ l : List α, l.length = m ∧ ∀ i y, l[i]? = some y → R i y := by
 induction m with
 | zero => exact ⟨[], rfl, fun i y hy => by simp at hy⟩
 | succ m ih =>
  obtain ⟨l, hl, hr⟩ := ih (fun i hi => h i (by omega))
  obtain ⟨y, hy⟩ := h m (by omega)
  refine ⟨l ++ [y], (by simp [hl]), fun i z hz => ?_⟩
  rcases Nat.lt_or_ge i l.length with hi | hi
  ·rw [List.getElem?_append_left hi] at hz
   exact hr i z hz
  ·have : i = m := by
    have := (List.getElem?_eq_some_iff.1 hz).1
    simp at this
    omega
   subst this
   rw [← hl] at hz ⊢
   have : y = z := by simpa using hz
   subst this
   rw [hl]
   exact hy
theorem opens_slice {α : Type} {d : Kd α} {Q : α → Prop} {t e : TypeId} (ht : P.underlying t = some (.slice e)) (he : Opens enc P w base spare held d Q e) (hC : P.cellsOf e = d.sz) :
  Opens enc P w base spare held (Kd.slice e d) (fun l => ∀ y ∈ l, Q y) t := by
 intro fuel cs x h
 rcases open_slice ht h with ⟨rfl, _⟩ | ⟨a, len, cap, m, n, D, Pl, rfl, _, hl, hm, hmm, _, hi⟩
 ·exact ⟨[], ⟨none, 0, rfl, Nat.le_refl _, rfl, (by simp), fun h => absurd h (by simp)⟩, fun y hy => by cases hy⟩
 ·have hlm : len ≤ m := by rw [hmm]; split <;> omega
  obtain ⟨l, hll, hr⟩ := list_of len (fun i y => Q y ∧ ∃ cs', d.K w y cs' ∧ ∀ j u, cs'[j]? = some u → w.cell? (a.add (i * d.sz + j)) = some u) (fun i hil => by
   obtain ⟨cs', hc, htr⟩ := hi i (by omega)
   obtain ⟨y, hK, hQ⟩ := he _ _ _ htr
   rw [hC] at hc
   obtain ⟨_, hcl, hat⟩ := World.cells?_some hc
   refine ⟨y, hQ, cs', hK, fun j u hj => ?_⟩
   have hj' : j < d.sz := by have := (List.getElem?_eq_some_iff.1 hj).1; omega
   rw [← Go.Deep.add_add, hat j hj', hj])
  subst hll
  refine ⟨l, ⟨some a, cap, rfl, hl, rfl, (by simp only [maxLen] at hm; omega), fun _ => ⟨a, rfl, fun j p hj => ?_⟩⟩, fun y hy => ?_⟩
  ·obtain ⟨_, cs', hK, hat⟩ := hr j p hj
   exact ⟨cs', d.K_len hK, hK, hat⟩
  ·obtain ⟨i, hi⟩ := List.getElem?_of_mem hy
   exact (hr i y hi).1
theorem struct_cells {fs : Array Field} {t : TypeId} {fuel : Nat} {cs : List Value} {x : DataW H × List MemPlace} (ht : P.underlying t = some (.struct fs)) (hone : oneCellFields P fs = true) (h : DataW.trod enc P w base spare held fuel t cs = some x) :
  cs.length = P.cellsOf t ∧ ∀ (i : Nat) (f : Field), fs[i]? = some f → i < cs.length → ∃ n y v, cs[i]? = some v ∧ DataW.trod enc P w base spare held n f.type [v] = some y := by
 obtain ⟨ys, n, _, _, hlen, hyl, hf⟩ := DataW.trod_struct ht h
 refine ⟨hlen, fun i f hi hlt => ?_⟩
 obtain ⟨ho, hk⟩ := hone_of hone i f hi
 have h1 := hf i f hi
 rw [ho, hk, List.drop_eq_getElem_cons hlt] at h1
 have hiy : i < ys.length := by rw [hyl]; exact (Array.getElem?_eq_some_iff.1 hi).1
 rw [List.getElem?_eq_getElem hiy] at h1
 exact ⟨n, _, cs[i], List.getElem?_eq_getElem hlt, h1⟩
end
def wfI (n : Int) : Prop := -9223372036854775808 ≤ n ∧ n ≤ 9223372036854775807
theorem wfI_of {n : Int} (h : (Lit.int .i64 n).wf = true) : wfI n := bounds_i64 h
section
variable {H : Type} {enc : TypeId × Value → H} {w : World} {base : Nat} {spare : Nat → Bool} {held : Bool}
theorem open_i {t : TypeId} {n : Nat} {v : Value} {y : DataW H × List MemPlace} (ht : Try.prog.underlying t = some (.int .i64)) (h : DataW.trod enc Try.prog w base spare held n t [v] = some y) : ∃ a : Int, v = .int .i64 a ∧ wfI a := by
 obtain ⟨a, e, w0⟩ := opens_int ht _ _ _ h
 have e' : [v] = [Value.int .i64 a] := e
 exact ⟨a, (by simpa using e'), wfI_of w0⟩
theorem opens_step : Opens enc Try.prog w base spare held k99 (fun s => wfI s.f0 ∧ wfI s.f1) 99 := by
 intro fuel cs x h
 obtain ⟨hl, hc⟩ := struct_cells Try.underlying99 m_13 h
 rw [show Try.prog.cellsOf 99 = 2 from by kernel_rfl] at hl
 match cs, hl with
 | [c0, c1], _ =>
  obtain ⟨n0, y0, v0, h0, t0⟩ := hc 0 _ rfl (by simp)
  obtain ⟨n1, y1, v1, h1, t1⟩ := hc 1 _ rfl (by simp)
  obtain rfl : c0 = v0 := by simpa using h0
  obtain rfl : c1 = v1 := by simpa using h1
  obtain ⟨a, rfl, w0⟩ := open_i m_13 t0
  obtain ⟨b, rfl, w1⟩ := open_i m_13 t1
  exact ⟨⟨a, b⟩, k99_mk w ⟨a, b⟩, w0, w1⟩
structure wfU (u : S24) : Prop where
 h0 : wfI u.f0
 h1 : wfI u.f1
 h2 : ∀ s ∈ u.f2, wfI s.f0 ∧ wfI s.f1
 h3 : wfI u.f3
 h4 : wfI u.f4
 h5 : wfI u.f5
 h6 : wfI u.f6
 h7 : wfI u.f7
 h8 : wfI u.f8
set_option maxRecDepth 100000 in
theorem opens_unit : Opens enc Try.prog w base spare held k24 wfU 24 := by
 intro fuel cs x h
 obtain ⟨hl, hc⟩ := struct_cells Try.underlying24 m_13 h
 rw [show Try.prog.cellsOf 24 = 9 from by kernel_rfl] at hl
 match cs, hl with
 | [c0, c1, c2, c3, c4, c5, c6, c7, c8], _ =>
  obtain ⟨n0, y0, v0, h0, t0⟩ := hc 0 _ rfl (by simp)
  obtain ⟨n1, y1, v1, h1, t1⟩ := hc 1 _ rfl (by simp)
  obtain ⟨n2, y2, v2, h2, t2⟩ := hc 2 _ rfl (by simp)
  obtain ⟨n3, y3, v3, h3, t3⟩ := hc 3 _ rfl (by simp)
  obtain ⟨n4, y4, v4, h4, t4⟩ := hc 4 _ rfl (by simp)
  obtain ⟨n5, y5, v5, h5, t5⟩ := hc 5 _ rfl (by simp)
  obtain ⟨n6, y6, v6, h6, t6⟩ := hc 6 _ rfl (by simp)
  obtain ⟨n7, y7, v7, h7, t7⟩ := hc 7 _ rfl (by simp)
  obtain ⟨n8, y8, v8, h8, t8⟩ := hc 8 _ rfl (by simp)
  obtain rfl : c0 = v0 := by simpa using h0
  obtain rfl : c1 = v1 := by simpa using h1
  obtain rfl : c2 = v2 := by simpa using h2
  obtain rfl : c3 = v3 := by simpa using h3
  obtain rfl : c4 = v4 := by simpa using h4
  obtain rfl : c5 = v5 := by simpa using h5
  obtain rfl : c6 = v6 := by simpa using h6
  obtain rfl : c7 = v7 := by simpa using h7
  obtain rfl : c8 = v8 := by simpa using h8
  obtain ⟨a0, rfl, w0⟩ := open_i m_13 t0
  obtain ⟨a1, rfl, w1⟩ := open_i m_13 t1
  obtain ⟨l, ⟨A, c, e, hlc, hC⟩, hq⟩ := opens_slice Try.underlying22 opens_step m_13 _ _ _ t2
  obtain rfl : c2 = .slice A l.length c := by simpa using e
  obtain ⟨a3, rfl, w3⟩ := open_i m_13 t3
  obtain ⟨a4, rfl, w4⟩ := open_i m_13 t4
  obtain ⟨a5, rfl, w5⟩ := open_i m_13 t5
  obtain ⟨a6, rfl, w6⟩ := open_i m_13 t6
  obtain ⟨a7, rfl, w7⟩ := open_i m_13 t7
  obtain ⟨a8, rfl, w8⟩ := open_i m_13 t8
  exact ⟨⟨a0, a1, l, a3, a4, a5, a6, a7, a8⟩, k24_mk w ⟨a0, a1, l, a3, a4, a5, a6, a7, a8⟩ hlc hC, ⟨w0, w1, hq, w3, w4, w5, w6, w7, w8⟩⟩
end
section
variable {H : Type} {enc : TypeId × Value → H} {P : Program} {w : World} {base : Nat} {spare : Nat → Bool} {held : Bool}
theorem arg_slice {α : Type} {dk : Kd α} {Q : α → Prop} {t te : TypeId} {r : Reach} {b0 : Nat} {v : Value} {d : DataW H} {p : List MemPlace} (ht : P.underlying t = some (.slice te)) (he : Opens enc P w base spare held dk Q te) (hC : P.cellsOf te = dk.sz)
  (hv : Value.okWide P w r b0 t v) (h : DataW.Trod enc P w base spare held t v d p) : ∃ (l : List α) (A : Option Addr) (c : Nat), v = .slice A l.length c ∧ l.length ≤ c ∧ Kd.C dk w A l.length l ∧ ∀ y ∈ l, Q y := by
 obtain ⟨a, len, cap, hv2⟩ := okWide_slice ht hv
 subst hv2
 obtain ⟨fuel, hf⟩ := h
 obtain ⟨l, ⟨A, c, e1, hlc, hC1⟩, hq⟩ := opens_slice ht he hC _ _ _ hf
 exact ⟨l, A, c, (by simpa [Value.cells] using e1), hlc, hC1, hq⟩
end
theorem EnergyExchange_law (l0 : List S24) (l1 : List Bool) (a2 a3 a4 : Int) (_ : ∀ y ∈ l0, wfU y) (_ : ∀ y ∈ l1, True) (_ : -9223372036854775808 ≤ a2 ∧ a2 ≤ 9223372036854775807) (h3 : 0 ≤ a3 ∧ a3 ≤ 255) (h4 : 0 ≤ a4 ∧ a4 ≤ 255) : ∃ k, pylonlaw28_EnergyExchange.f k l0 l1 a2 a3 a4 = some true := (exchange_plain l0 l1 a2 a3 a4 h3 h4).some
end Go.Proofs.Ytelklgdmhnkenaa.U
namespace Go.Proofs.Ytelklgdmhnkenaa.energyExchange
open Go.ChangeShapes Go.WideShapes Go.ChangeAt Go.RowKit Go.Proofs.Ytelklgdmhnkenaa.U Go.Proofs.YtelklgdmhnkenaaW.PrintWords
theorem own : ownKnob Try.prog.godebug = none := by kernel_rfl
theorem laidOut : laidOutB Try.prog = true := by kernel_rfl
set_option maxHeartbeats 2000000 in
set_option maxRecDepth 100000 in
theorem lifted (os : Os) (started : os.Started) (H : Type) (enc : TypeId × Value → H) :
  ReturnsInHanded {} Try.checked os 11 .any (Rows.energyExchangeSpec.pre6 enc Try.prog Try.f11 Rows.energyExchangeRow.domain false) (Rows.energyExchangeSpec.post enc Try.prog Try.f11 false true false false) := by
 refine returnsInHanded_of_change_sized (C := Try.checked) own started m_13 Try.func11
  (ChangeSpec.witness6 (enc := enc) (C := Try.checked) false ⟨#[], #[.slice none 0 0, .slice none 0 0, .int .i64 0, .int .u8 0, .int .u8 0], []⟩ 8 m_13 m_13 m_13 m_13) ?_
 intro W base args ds gs before hval0 hW hcnd hsz0 _
 have hval : ∀ (j : Nat) t v, Try.f11.params[j]? = some t → args[j]? = some v → Value.okWide Try.prog W .any base t v := hval0
 have hW' := hW
 obtain ⟨p, q, hA0, hV, rfl, hfz, hnd⟩ := hW
 have hA : DataW.TrodAll enc Try.prog W 0 (fun _ => true) true Try.f11.params.toList args.toList ds p := hA0
 rw [Try.params11] at hA hval
 obtain ⟨v0, vs0, d0, ds0, p0, q0, hargs, rfl, rfl, h0, r0⟩ := trodAll_cons hA
 obtain ⟨v1, vs1, d1, ds1, p1, q1, rfl, rfl, rfl, h1, r1⟩ := trodAll_cons r0
 obtain ⟨v2, vs2, d2, ds2, p2, q2, rfl, rfl, rfl, h2, r2⟩ := trodAll_cons r1
 obtain ⟨v3, vs3, d3, ds3, p3, q3, rfl, rfl, rfl, h3, r3⟩ := trodAll_cons r2
 obtain ⟨v4, vs4, d4, ds4, p4, q4, rfl, rfl, rfl, h4, r4⟩ := trodAll_cons r3
 obtain ⟨rfl, rfl, rfl⟩ := trodAll_nil r4
 obtain rfl : args = #[v0, v1, v2, v3, v4] := by cases args; simp_all
 obtain ⟨rfl, rfl⟩ := trodVars_none hV
 have k0 := h0
 have lt0 : ∀ x ∈ p0, x.block < W.heap.size := by obtain ⟨m, hm⟩ := k0; exact DataW.trod_lt m _ _ _ hm
 obtain ⟨l0, A0, c0, e0, hc0, hC0, hq0⟩ := arg_slice (te := 24) m_13 opens_unit m_13 (hval 0 45 v0 rfl rfl) h0
 subst e0
 have k1 := h1
 have lt1 : ∀ x ∈ p1, x.block < W.heap.size := by obtain ⟨m, hm⟩ := k1; exact DataW.trod_lt m _ _ _ hm
 obtain ⟨l1, A1, c1, e1, hc1, hC1, hq1⟩ := arg_slice (te := 4) m_13 (opens_bool (t := 4) m_13) m_13 (hval 1 32 v1 rfl rfl) h1
 subst e1
 obtain ⟨a2, rfl, rfl, rfl, w2⟩ := open_int (k := .i64) m_13 (hval 2 2 v2 rfl rfl) h2
 obtain ⟨a3, rfl, rfl, rfl, w3⟩ := open_int (k := .u8) m_13 (hval 3 5 v3 rfl rfl) h3
 obtain ⟨a4, rfl, rfl, rfl, w4⟩ := open_int (k := .u8) m_13 (hval 4 5 v4 rfl rfl) h4
 clear hA0 hval0 hsz0
 obtain ⟨k, hk⟩ := EnergyExchange_law l0 l1 a2 a3 a4 hq0 hq1 (bounds_i64 w2) (bounds_u8 w3) (bounds_u8 w4)
 refine (pylonlaw28_EnergyExchange.calls k A0 c0 l0 A1 c1 l1 a2 a3 a4 true W hC0 hc0 hC1 hc1 hk).mono fun e W' ⟨he, bel⟩ => ?_
 subst he
 exact ⟨_, rfl, _, _, _, [], _, [], hW', trodAll_mk1 (shut_bool m_13 _), (trodAll_cons_mk (Below.trod laidOut m_13 (of_decide_eq_true m_13) k0 bel lt0) (trodAll_cons_mk (Below.trod laidOut m_13 (of_decide_eq_true m_13) k1 bel lt1) (trodAll_cons_mk (shut_int m_13 w2) (trodAll_cons_mk (shut_int m_13 w3) (trodAll_cons_mk (shut_int m_13 w4) trodAll_mk0))))), rfl, bel.frame _, fun h => by cases h⟩
theorem over : Rows.energyExchangeRow.holds Try.pinned (OpenSpec.ofChange Rows.energyExchangeSpec) :=
 OpenClaim.holds_of_wide 11 Try.f11 rfl rfl rfl rfl rfl rfl rfl ⟨rfl, rfl, rfl, rfl, rfl⟩ rfl rfl rfl rfl rfl m_13 Try.func11 m_13
  (of_decide_eq_true m_13) m_80
  (fun os started H enc _ => lifted os started H enc)
end Go.Proofs.Ytelklgdmhnkenaa.energyExchange
namespace Go.Proofs.Ytelklgdmhnkenaa
theorem energyExchange_holds : Rows.EnergyExchangeSaid := energyExchange.over
#print axioms energyExchange_holds
end Go.Proofs.Ytelklgdmhnkenaa
