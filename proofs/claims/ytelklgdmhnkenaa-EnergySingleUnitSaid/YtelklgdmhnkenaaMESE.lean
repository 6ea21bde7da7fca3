/- The EnergySingleUnit law, for every input that can be read: the call returns true, and the arguments read afterwards as before. No condition. (Last of the texts of this proof.) -/
import Derived.Test.YtelklgdmhnkenaaMESA
import Derived.Test.YtelklgdmhnkenaaMESD
import Derived.Test.YtelklgdmhnkenaaMESC
import Derived.Deep.Slices
import Derived.Deep.Fields
import Derived.ProofKit
import Derived.OpenShut
import Derived.ChangeOld
import Derived.SizedLaws
import Derived.Test.YtelklgdmhnkenaaRows
import Derived.WalkKit
import Derived.Below
set_option linter.unusedVariables false
set_option linter.unusedSimpArgs false
open Go.RowKit Go.Proofs.YtelklgdmhnkenaaW.PrintWords Go.Proofs.YtelklgdmhnkenaaW.PrintLast Go.Proofs.YtelklgdmhnkenaaW.PrintMore
namespace Go.Proofs.Ytelklgdmhnkenaa.U
attribute [local go_sem] max2_int min2_int max_two min_two max_three min_three max_four min_four
def pylonlaw28_awake.f (k : Nat)  : Option (Bool) := (pylonlaw28_ex.f).bind fun t745 => ((some (([true, true] : List Bool) : List Bool)).bind fun y748 => ((energy_Range.f k t745 y748).bind fun bt751 => ((energy_LeastCost.f k t745 y748 1).bind fun bt754 => ((energy_LeastCost.f k t745 y748 16).bind fun bt756 => ((energy_LeastCost.f k t745 y748 (-1)).bind fun bt758 => (if bt751.1 = 2 then (if bt751.2.1 = 15 then (if bt751.2.2 = 0 then ((pylonlaw28_gives.f k t745 y748 7 9 (([5, 2] : List Int))).bind fun t763 => (if t763 = true then ((pylonlaw28_gives.f k t745 y748 9 14 (([5, 4] : List Int))).bind fun t767 => (if t767 = true then ((pylonlaw28_gives.f k t745 (([false, true] : List Bool)) 4 9 (([0, 4] : List Int))).bind fun t774 => (if t774 = true then (if bt754.2 = 8 then (if bt756.2 = 8 then (some (bt758.2 == 1)) else (none)) else (none)) else (none))) else (none))) else (none))) else (none)) else (none)) else (none)))))))
set_option maxHeartbeats 8000000 in
set_option maxRecDepth 100000 in
theorem pylonlaw28_awake.calls (k : Nat)  (r : Bool) (w : World) (h : pylonlaw28_awake.f k  = some r) :
  Calls Try.prog 30 #[] w fun e w' => e = .returned (.bool r) ∧ Below w.heap.size w w' := by
 have HB := Aside0.mk (Below.refl w.heap.size w)
 have H : ((pylonlaw28_ex.f).bind fun t745 => ((some (([true, true] : List Bool) : List Bool)).bind fun y748 => ((energy_Range.f k t745 y748).bind fun bt751 => ((energy_LeastCost.f k t745 y748 1).bind fun bt754 => ((energy_LeastCost.f k t745 y748 16).bind fun bt756 => ((energy_LeastCost.f k t745 y748 (-1)).bind fun bt758 => (if bt751.1 = 2 then (if bt751.2.1 = 15 then (if bt751.2.2 = 0 then ((pylonlaw28_gives.f k t745 y748 7 9 (([5, 2] : List Int))).bind fun t763 => (if t763 = true then ((pylonlaw28_gives.f k t745 y748 9 14 (([5, 4] : List Int))).bind fun t767 => (if t767 = true then ((pylonlaw28_gives.f k t745 (([false, true] : List Bool)) 4 9 (([0, 4] : List Int))).bind fun t774 => (if t774 = true then (if bt754.2 = 8 then (if bt756.2 = 8 then (some (bt758.2 == 1)) else (none)) else (none)) else (none))) else (none))) else (none))) else (none)) else (none)) else (none)))))))) = some r := h
 clear h
 replace H := Option.bind_eq_some_iff.mp H
 obtain ⟨t745, A10, H⟩ := H
 replace H : ((some (([true, true] : List Bool) : List Bool)).bind fun y748 => ((energy_Range.f k t745 y748).bind fun bt751 => ((energy_LeastCost.f k t745 y748 1).bind fun bt754 => ((energy_LeastCost.f k t745 y748 16).bind fun bt756 => ((energy_LeastCost.f k t745 y748 (-1)).bind fun bt758 => (if bt751.1 = 2 then (if bt751.2.1 = 15 then (if bt751.2.2 = 0 then ((pylonlaw28_gives.f k t745 y748 7 9 (([5, 2] : List Int))).bind fun t763 => (if t763 = true then ((pylonlaw28_gives.f k t745 y748 9 14 (([5, 4] : List Int))).bind fun t767 => (if t767 = true then ((pylonlaw28_gives.f k t745 (([false, true] : List Bool)) 4 9 (([0, 4] : List Int))).bind fun t774 => (if t774 = true then (if bt754.2 = 8 then (if bt756.2 = 8 then (some (bt758.2 == 1)) else (none)) else (none)) else (none))) else (none))) else (none))) else (none)) else (none)) else (none))))))) = some r := H
 have A1 := Aside0.mk A10
 clear A10
 obtain ⟨y748, hy748⟩ : ∃ y_ : List Bool, y_ = (([true, true] : List Bool)) := ⟨_, rfl⟩
 replace H : ((energy_Range.f k t745 y748).bind fun bt751 => ((energy_LeastCost.f k t745 y748 1).bind fun bt754 => ((energy_LeastCost.f k t745 y748 16).bind fun bt756 => ((energy_LeastCost.f k t745 y748 (-1)).bind fun bt758 => (if bt751.1 = 2 then (if bt751.2.1 = 15 then (if bt751.2.2 = 0 then ((pylonlaw28_gives.f k t745 y748 7 9 (([5, 2] : List Int))).bind fun t763 => (if t763 = true then ((pylonlaw28_gives.f k t745 y748 9 14 (([5, 4] : List Int))).bind fun t767 => (if t767 = true then ((pylonlaw28_gives.f k t745 (([false, true] : List Bool)) 4 9 (([0, 4] : List Int))).bind fun t774 => (if t774 = true then (if bt754.2 = 8 then (if bt756.2 = 8 then (some (bt758.2 == 1)) else (none)) else (none)) else (none))) else (none))) else (none))) else (none)) else (none)) else (none)))))) = some r := by first | (rw [hy748]; with_reducible exact H) | (have H2_ := (Option.bind_some _ _).symm.trans H; rw [hy748]; with_reducible exact H2_) | (have H2_ := (Option.bind_some _ _).symm.trans H; with_reducible exact H2_) | with_reducible exact H | (rw [hy748]; exact H) | exact H
 have Ny748 := Aside0.mk hy748
 clear hy748
 replace H := Option.bind_eq_some_iff.mp H
 obtain ⟨⟨t751, t752, t753⟩, A20, H⟩ := H
 replace H : ((energy_LeastCost.f k t745 y748 1).bind fun bt754 => ((energy_LeastCost.f k t745 y748 16).bind fun bt756 => ((energy_LeastCost.f k t745 y748 (-1)).bind fun bt758 => (if t751 = 2 then (if t752 = 15 then (if t753 = 0 then ((pylonlaw28_gives.f k t745 y748 7 9 (([5, 2] : List Int))).bind fun t763 => (if t763 = true then ((pylonlaw28_gives.f k t745 y748 9 14 (([5, 4] : List Int))).bind fun t767 => (if t767 = true then ((pylonlaw28_gives.f k t745 (([false, true] : List Bool)) 4 9 (([0, 4] : List Int))).bind fun t774 => (if t774 = true then (if bt754.2 = 8 then (if bt756.2 = 8 then (some (bt758.2 == 1)) else (none)) else (none)) else (none))) else (none))) else (none))) else (none)) else (none)) else (none))))) = some r := H
 have A2 := Aside0.mk A20
 clear A20
 replace H := Option.bind_eq_some_iff.mp H
 obtain ⟨⟨t754, t755⟩, A30, H⟩ := H
 replace H : ((energy_LeastCost.f k t745 y748 16).bind fun bt756 => ((energy_LeastCost.f k t745 y748 (-1)).bind fun bt758 => (if t751 = 2 then (if t752 = 15 then (if t753 = 0 then ((pylonlaw28_gives.f k t745 y748 7 9 (([5, 2] : List Int))).bind fun t763 => (if t763 = true then ((pylonlaw28_gives.f k t745 y748 9 14 (([5, 4] : List Int))).bind fun t767 => (if t767 = true then ((pylonlaw28_gives.f k t745 (([false, true] : List Bool)) 4 9 (([0, 4] : List Int))).bind fun t774 => (if t774 = true then (if t755 = 8 then (if bt756.2 = 8 then (some (bt758.2 == 1)) else (none)) else (none)) else (none))) else (none))) else (none))) else (none)) else (none)) else (none)))) = some r := H
 have A3 := Aside0.mk A30
 clear A30
 replace H := Option.bind_eq_some_iff.mp H
 obtain ⟨⟨t756, t757⟩, A40, H⟩ := H
 replace H : ((energy_LeastCost.f k t745 y748 (-1)).bind fun bt758 => (if t751 = 2 then (if t752 = 15 then (if t753 = 0 then ((pylonlaw28_gives.f k t745 y748 7 9 (([5, 2] : List Int))).bind fun t763 => (if t763 = true then ((pylonlaw28_gives.f k t745 y748 9 14 (([5, 4] : List Int))).bind fun t767 => (if t767 = true then ((pylonlaw28_gives.f k t745 (([false, true] : List Bool)) 4 9 (([0, 4] : List Int))).bind fun t774 => (if t774 = true then (if t755 = 8 then (if t757 = 8 then (some (bt758.2 == 1)) else (none)) else (none)) else (none))) else (none))) else (none))) else (none)) else (none)) else (none))) = some r := H
 have A4 := Aside0.mk A40
 clear A40
 replace H := Option.bind_eq_some_iff.mp H
 obtain ⟨⟨t758, t759⟩, A50, H⟩ := H
 replace H : (if t751 = 2 then (if t752 = 15 then (if t753 = 0 then ((pylonlaw28_gives.f k t745 y748 7 9 (([5, 2] : List Int))).bind fun t763 => (if t763 = true then ((pylonlaw28_gives.f k t745 y748 9 14 (([5, 4] : List Int))).bind fun t767 => (if t767 = true then ((pylonlaw28_gives.f k t745 (([false, true] : List Bool)) 4 9 (([0, 4] : List Int))).bind fun t774 => (if t774 = true then (if t755 = 8 then (if t757 = 8 then (some (t759 == 1)) else (none)) else (none)) else (none))) else (none))) else (none))) else (none)) else (none)) else (none)) = some r := H
 have A5 := Aside0.mk A50
 clear A50
 by_cases c6 : t751 = 2
 ·rw [if_pos c6] at H
  have c6b0 : (t751 == 2) = true := beq_iff_eq.mpr c6
  clear c6
  by_cases c7 : t752 = 15
  ·rw [if_pos c7] at H
   have c7b0 : (t752 == 15) = true := beq_iff_eq.mpr c7
   clear c7
   by_cases c8 : t753 = 0
   ·rw [if_pos c8] at H
    have c8b0 : (t753 == 0) = true := beq_iff_eq.mpr c8
    clear c8
    obtain ⟨y760, hy760⟩ : ∃ y_ : List Int, y_ = (([5, 2] : List Int)) := ⟨_, rfl⟩
    replace H : ((pylonlaw28_gives.f k t745 y748 7 9 y760).bind fun t763 => (if t763 = true then ((pylonlaw28_gives.f k t745 y748 9 14 (([5, 4] : List Int))).bind fun t767 => (if t767 = true then ((pylonlaw28_gives.f k t745 (([false, true] : List Bool)) 4 9 (([0, 4] : List Int))).bind fun t774 => (if t774 = true then (if t755 = 8 then (if t757 = 8 then (some (t759 == 1)) else (none)) else (none)) else (none))) else (none))) else (none))) = some r := by first | (rw [hy760]; with_reducible exact H) | (have H2_ := (Option.bind_some _ _).symm.trans H; rw [hy760]; with_reducible exact H2_) | (have H2_ := (Option.bind_some _ _).symm.trans H; with_reducible exact H2_) | with_reducible exact H | (rw [hy760]; exact H) | exact H
    have Ny760 := Aside0.mk hy760
    clear hy760
    replace H := Option.bind_eq_some_iff.mp H
    obtain ⟨t763, A90, H⟩ := H
    replace H : (if t763 = true then ((pylonlaw28_gives.f k t745 y748 9 14 (([5, 4] : List Int))).bind fun t767 => (if t767 = true then ((pylonlaw28_gives.f k t745 (([false, true] : List Bool)) 4 9 (([0, 4] : List Int))).bind fun t774 => (if t774 = true then (if t755 = 8 then (if t757 = 8 then (some (t759 == 1)) else (none)) else (none)) else (none))) else (none))) else (none)) = some r := H
    have A9 := Aside0.mk A90
    clear A90
    by_cases c10 : t763 = true
    ·subst c10
     have H1 : ((pylonlaw28_gives.f k t745 y748 9 14 (([5, 4] : List Int))).bind fun t767 => (if t767 = true then ((pylonlaw28_gives.f k t745 (([false, true] : List Bool)) 4 9 (([0, 4] : List Int))).bind fun t774 => (if t774 = true then (if t755 = 8 then (if t757 = 8 then (some (t759 == 1)) else (none)) else (none)) else (none))) else (none))) = some r := by rw [if_pos rfl] at H; exact H
     clear H
     have H := H1
     clear H1
     obtain ⟨y764, hy764⟩ : ∃ y_ : List Int, y_ = (([5, 4] : List Int)) := ⟨_, rfl⟩
     replace H : ((pylonlaw28_gives.f k t745 y748 9 14 y764).bind fun t767 => (if t767 = true then ((pylonlaw28_gives.f k t745 (([false, true] : List Bool)) 4 9 (([0, 4] : List Int))).bind fun t774 => (if t774 = true then (if t755 = 8 then (if t757 = 8 then (some (t759 == 1)) else (none)) else (none)) else (none))) else (none))) = some r := by first | (rw [hy764]; with_reducible exact H) | (have H2_ := (Option.bind_some _ _).symm.trans H; rw [hy764]; with_reducible exact H2_) | (have H2_ := (Option.bind_some _ _).symm.trans H; with_reducible exact H2_) | with_reducible exact H | (rw [hy764]; exact H) | exact H
     have Ny764 := Aside0.mk hy764
     clear hy764
     replace H := Option.bind_eq_some_iff.mp H
     obtain ⟨t767, A110, H⟩ := H
     replace H : (if t767 = true then ((pylonlaw28_gives.f k t745 (([false, true] : List Bool)) 4 9 (([0, 4] : List Int))).bind fun t774 => (if t774 = true then (if t755 = 8 then (if t757 = 8 then (some (t759 == 1)) else (none)) else (none)) else (none))) else (none)) = some r := H
     have A11 := Aside0.mk A110
     clear A110
     by_cases c12 : t767 = true
     ·subst c12
      have H1 : ((pylonlaw28_gives.f k t745 (([false, true] : List Bool)) 4 9 (([0, 4] : List Int))).bind fun t774 => (if t774 = true then (if t755 = 8 then (if t757 = 8 then (some (t759 == 1)) else (none)) else (none)) else (none))) = some r := by rw [if_pos rfl] at H; exact H
      clear H
      have H := H1
      clear H1
      obtain ⟨y768, hy768⟩ : ∃ y_ : List Bool, y_ = (([false, true] : List Bool)) := ⟨_, rfl⟩
      replace H : ((pylonlaw28_gives.f k t745 y768 4 9 (([0, 4] : List Int))).bind fun t774 => (if t774 = true then (if t755 = 8 then (if t757 = 8 then (some (t759 == 1)) else (none)) else (none)) else (none))) = some r := by first | (rw [hy768]; with_reducible exact H) | (have H2_ := (Option.bind_some _ _).symm.trans H; rw [hy768]; with_reducible exact H2_) | (have H2_ := (Option.bind_some _ _).symm.trans H; with_reducible exact H2_) | with_reducible exact H | (rw [hy768]; exact H) | exact H
      have Ny768 := Aside0.mk hy768
      clear hy768
      obtain ⟨y771, hy771⟩ : ∃ y_ : List Int, y_ = (([0, 4] : List Int)) := ⟨_, rfl⟩
      replace H : ((pylonlaw28_gives.f k t745 y768 4 9 y771).bind fun t774 => (if t774 = true then (if t755 = 8 then (if t757 = 8 then (some (t759 == 1)) else (none)) else (none)) else (none))) = some r := by first | (rw [hy771]; with_reducible exact H) | (have H2_ := (Option.bind_some _ _).symm.trans H; rw [hy771]; with_reducible exact H2_) | (have H2_ := (Option.bind_some _ _).symm.trans H; with_reducible exact H2_) | with_reducible exact H | (rw [hy771]; exact H) | exact H
      have Ny771 := Aside0.mk hy771
      clear hy771
      replace H := Option.bind_eq_some_iff.mp H
      obtain ⟨t774, A130, H⟩ := H
      replace H : (if t774 = true then (if t755 = 8 then (if t757 = 8 then (some (t759 == 1)) else (none)) else (none)) else (none)) = some r := H
      have A13 := Aside0.mk A130
      clear A130
      by_cases c14 : t774 = true
      ·subst c14
       have H1 : (if t755 = 8 then (if t757 = 8 then (some (t759 == 1)) else (none)) else (none)) = some r := by rw [if_pos rfl] at H; exact H
       clear H
       have H := H1
       clear H1
       by_cases c15 : t755 = 8
       ·rw [if_pos c15] at H
        have c15b0 : (t755 == 8) = true := beq_iff_eq.mpr c15
        clear c15
        by_cases c16 : t757 = 8
        ·rw [if_pos c16] at H
         have c16b0 : (t757 == 8) = true := beq_iff_eq.mpr c16
         clear c16
         obtain rfl := Option.some.inj H
         go_enter Try.func30, Try.ntmps30
         go_wp2_with (first | ((with_reducible refine gate_callee (f := 51) rfl ?_); refine goesL_ (some 12) rfl rfl Try.func51 m_13 rfl #[] rfl m_2 ?_; (with_reducible refine (pylonlaw28_ex.calls  t745 _ A1.out).mono ?_); rintro e w17 ⟨v746, rfl, ho0, hb⟩; refine ⟨_, rfl, ?_⟩; have HO747 := Aside0.mk (Kd.V_lower (Kd.V_mono (ok' := fun k_ => True) ho0 (fun k_ hk_ => trivial)) (below_size m_1)); replace HB := Aside0.mk (below_step m_1 hb); clear hb; (try clear ho0)) | ((with_reducible refine gate_dst (N := 13) rfl ?_); (try (refine gate_guard (by rfl) ?_; dsimp only)); refine Kd.R_lit Kd.bool _ 4 ?hg (N := 13) ?hd (xs := ([true, true] : List Bool)) (inner := [.bool true, .bool true]) (ok := fun _ => True) (okp := fun _ => True) ?hr ?hp (fun _ hk => hk) trivial (Below.refl _ _) (Nat.le_refl _) (by simp) ?_; (case hd => rfl); (case hg => rfl); (case hr => exact hr_); (case hp => exact (Reps.one (show Kd.M Kd.bool _ _ _ true [.bool true] from rfl) (Reps.one (show Kd.M Kd.bool _ _ _ true [.bool true] from rfl) (Reps.none _ _)))); intro v749 w18 ho19 hb hg_ hnew_; clear hg_ hnew_; (first | rw [← Ny748.out] at ho19 | (simp only [Int.reduceToNat] at ho19; rw [← Ny748.out] at ho19)); have HO750 := Aside0.mk (Kd.R_lower ho19 (below_size m_1)); replace HO747 := Aside0.mk (Kd.V_elder' (vA_ HO747.out) (Kd.R_base ho19) hb); replace HB := Aside0.mk (below_step m_1 hb); clear hb ho19; obtain ⟨Ao20, co20, eo20⟩ := Kd.V_slice HO747.out; subst eo20; obtain ⟨Ao21, co21, eo21⟩ := Kd.R_slice HO750.out; subst eo21) | ((with_reducible refine gate_callee (f := 52) rfl ?_); refine goesL_ (some 17) rfl rfl Try.func52 m_13 rfl #[.slice Ao20 t745.length co20, .slice Ao21 y748.length co21] rfl m_2 ?_; (with_reducible refine (energy_Range.calls k _ _ t745 _ _ y748 t751 t752 t753 _ ?side1 ?side2 ?side3 ?side4 A2.out).mono ?_); (case side1 => exact cA_ (Kd.V_reads' HO747.out).2.2); (case side2 => exact (Kd.V_reads' HO747.out).2.1); (case side3 => exact cA_ (Kd.R_reads' HO750.out).2.2); (case side4 => exact (Kd.R_reads' HO750.out).2.1); rintro e w22 ⟨rfl, hb⟩; refine ⟨_, rfl, ?_⟩; replace HO747 := vB_ HO747 hb; replace HO750 := rB_ HO750 hb; replace HB := Aside0.mk (below_step m_1 hb); clear hb) | ((with_reducible refine gate_callee (f := 33) rfl ?_); refine goesL_ (some 24) rfl rfl Try.func33 m_13 rfl #[.slice Ao20 t745.length co20, .slice Ao21 y748.length co21, .int .i64 1] rfl m_2 ?_; (with_reducible refine (energy_LeastCost.calls k _ _ t745 _ _ y748 1 t754 t755 _ ?side1 ?side2 ?side3 ?side4 A3.out).mono ?_); (case side1 => exact cA_ (Kd.V_reads' HO747.out).2.2); (case side2 => exact (Kd.V_reads' HO747.out).2.1); (case side3 => exact cA_ (Kd.R_reads' HO750.out).2.2); (case side4 => exact (Kd.R_reads' HO750.out).2.1); rintro e w23 ⟨rfl, hb⟩; refine ⟨_, rfl, ?_⟩; replace HO747 := vB_ HO747 hb; replace HO750 := rB_ HO750 hb; replace HB := Aside0.mk (below_step m_1 hb); clear hb) | ((with_reducible refine gate_callee (f := 33) rfl ?_); refine goesL_ (some 30) rfl rfl Try.func33 m_13 rfl #[.slice Ao20 t745.length co20, .slice Ao21 y748.length co21, .int .i64 16] rfl m_2 ?_; (with_reducible refine (energy_LeastCost.calls k _ _ t745 _ _ y748 16 t756 t757 _ ?side1 ?side2 ?side3 ?side4 A4.out).mono ?_); (case side1 => exact cA_ (Kd.V_reads' HO747.out).2.2); (case side2 => exact (Kd.V_reads' HO747.out).2.1); (case side3 => exact cA_ (Kd.R_reads' HO750.out).2.2); (case side4 => exact (Kd.R_reads' HO750.out).2.1); rintro e w24 ⟨rfl, hb⟩; refine ⟨_, rfl, ?_⟩; replace HO747 := vB_ HO747 hb; replace HO750 := rB_ HO750 hb; replace HB := Aside0.mk (below_step m_1 hb); clear hb) | ((with_reducible refine gate_callee (f := 33) rfl ?_); refine goesL_ (some 36) rfl rfl Try.func33 m_13 rfl #[.slice Ao20 t745.length co20, .slice Ao21 y748.length co21, .int .i64 (-1)] rfl m_2 ?_; (with_reducible refine (energy_LeastCost.calls k _ _ t745 _ _ y748 (-1) t758 t759 _ ?side1 ?side2 ?side3 ?side4 A5.out).mono ?_); (case side1 => exact cA_ (Kd.V_reads' HO747.out).2.2); (case side2 => exact (Kd.V_reads' HO747.out).2.1); (case side3 => exact cA_ (Kd.R_reads' HO750.out).2.2); (case side4 => exact (Kd.R_reads' HO750.out).2.1); rintro e w25 ⟨rfl, hb⟩; refine ⟨_, rfl, ?_⟩; replace HO747 := vB_ HO747 hb; replace HO750 := rB_ HO750 hb; replace HB := Aside0.mk (below_step m_1 hb); clear hb) | ((with_reducible refine gate_dst (N := 52) rfl ?_); (try (refine gate_guard (by rfl) ?_; dsimp only)); refine Kd.R_lit (Kd.int .i64) _ 2 ?hg (N := 52) ?hd (xs := ([5, 2] : List Int)) (inner := [.int .i64 5, .int .i64 2]) (ok := fun _ => True) (okp := fun _ => True) ?hr ?hp (fun _ hk => hk) trivial (Below.refl _ _) (Nat.le_refl _) (by simp) ?_; (case hd => rfl); (case hg => rfl); (case hr => exact hr_); (case hp => exact (Reps.one (show Kd.M (Kd.int .i64) _ _ _ 5 [.int .i64 5] from rfl) (Reps.one (show Kd.M (Kd.int .i64) _ _ _ 2 [.int .i64 2] from rfl) (Reps.none _ _)))); intro v761 w26 ho27 hb hg_ hnew_; clear hg_ hnew_; (first | rw [← Ny760.out] at ho27 | (simp only [Int.reduceToNat] at ho27; rw [← Ny760.out] at ho27)); have HO762 := Aside0.mk (Kd.R_lower ho27 (below_size m_1)); replace HO747 := Aside0.mk (Kd.V_elder' (vA_ HO747.out) (Kd.R_base ho27) hb); replace HO750 := rB_ HO750 hb; replace HB := Aside0.mk (below_step m_1 hb); clear hb ho27; obtain ⟨Ao28, co28, eo28⟩ := Kd.R_slice HO762.out; subst eo28) | (go_at_call 53; (with_reducible refine (pylonlaw28_gives.calls k _ _ t745 _ _ y748 7 9 _ _ y760 true _ ?side1 ?side2 ?side3 ?side4 ?side5 ?side6 A9.out).mono ?_); (case side1 => exact cA_ (Kd.V_reads' HO747.out).2.2); (case side2 => exact (Kd.V_reads' HO747.out).2.1); (case side3 => exact cA_ (Kd.R_reads' HO750.out).2.2); (case side4 => exact (Kd.R_reads' HO750.out).2.1); (case side5 => exact cA_ (Kd.R_reads' HO762.out).2.2); (case side6 => exact (Kd.R_reads' HO762.out).2.1); rintro e w29 ⟨rfl, hb⟩; replace HO747 := vB_ HO747 hb; replace HO750 := rB_ HO750 hb; replace HO762 := rB_ HO762 hb; replace HB := Aside0.mk (below_step m_1 hb); clear hb; (try clear hk)) | ((with_reducible refine gate_dst (N := 58) rfl ?_); (try (refine gate_guard (by rfl) ?_; dsimp only)); refine Kd.R_lit (Kd.int .i64) _ 2 ?hg (N := 58) ?hd (xs := ([5, 4] : List Int)) (inner := [.int .i64 5, .int .i64 4]) (ok := fun _ => True) (okp := fun _ => True) ?hr ?hp (fun _ hk => hk) trivial (Below.refl _ _) (Nat.le_refl _) (by simp) ?_; (case hd => rfl); (case hg => rfl); (case hr => exact hr_); (case hp => exact (Reps.one (show Kd.M (Kd.int .i64) _ _ _ 5 [.int .i64 5] from rfl) (Reps.one (show Kd.M (Kd.int .i64) _ _ _ 4 [.int .i64 4] from rfl) (Reps.none _ _)))); intro v765 w30 ho31 hb hg_ hnew_; clear hg_ hnew_; (first | rw [← Ny764.out] at ho31 | (simp only [Int.reduceToNat] at ho31; rw [← Ny764.out] at ho31)); have HO766 := Aside0.mk (Kd.R_lower (Kd.R_new' ho31 (Kd.R_lt (rA_ HO762.out))) (below_size m_1)); replace HO747 := Aside0.mk (Kd.V_elder' (vA_ HO747.out) (Kd.R_base ho31) hb); replace HO750 := rB_ HO750 hb; replace HO762 := Aside0.mk (Kd.R_elder' (rA_ HO762.out) (Kd.R_base ho31) hb); replace HB := Aside0.mk (below_step m_1 hb); clear hb ho31; obtain ⟨Ao32, co32, eo32⟩ := Kd.R_slice HO766.out; subst eo32) | (go_at_call 53; (with_reducible refine (pylonlaw28_gives.calls k _ _ t745 _ _ y748 9 14 _ _ y764 true _ ?side1 ?side2 ?side3 ?side4 ?side5 ?side6 A11.out).mono ?_); (case side1 => exact cA_ (Kd.V_reads' HO747.out).2.2); (case side2 => exact (Kd.V_reads' HO747.out).2.1); (case side3 => exact cA_ (Kd.R_reads' HO750.out).2.2); (case side4 => exact (Kd.R_reads' HO750.out).2.1); (case side5 => exact cA_ (Kd.R_reads' HO766.out).2.2); (case side6 => exact (Kd.R_reads' HO766.out).2.1); rintro e w33 ⟨rfl, hb⟩; replace HO747 := vB_ HO747 hb; replace HO750 := rB_ HO750 hb; replace HO762 := rB_ HO762 hb; replace HO766 := rB_ HO766 hb; replace HB := Aside0.mk (below_step m_1 hb); clear hb; (try clear hk)) | ((with_reducible refine gate_dst (N := 63) rfl ?_); (try (refine gate_guard (by rfl) ?_; dsimp only)); refine Kd.R_lit Kd.bool _ 4 ?hg (N := 63) ?hd (xs := ([false, true] : List Bool)) (inner := [.bool false, .bool true]) (ok := fun _ => True) (okp := fun _ => True) ?hr ?hp (fun _ hk => hk) trivial (Below.refl _ _) (Nat.le_refl _) (by simp) ?_; (case hd => rfl); (case hg => rfl); (case hr => exact hr_); (case hp => exact (Reps.one (show Kd.M Kd.bool _ _ _ false [.bool false] from rfl) (Reps.one (show Kd.M Kd.bool _ _ _ true [.bool true] from rfl) (Reps.none _ _)))); intro v769 w34 ho35 hb hg_ hnew_; clear hg_ hnew_; (first | rw [← Ny768.out] at ho35 | (simp only [Int.reduceToNat] at ho35; rw [← Ny768.out] at ho35)); have HO770 := Aside0.mk (Kd.R_lower (Kd.R_new' ho35 (Kd.R_lt (rA_ HO750.out))) (below_size m_1)); replace HO747 := Aside0.mk (Kd.V_elder' (vA_ HO747.out) (Kd.R_base ho35) hb); replace HO750 := Aside0.mk (Kd.R_elder' (rA_ HO750.out) (Kd.R_base ho35) hb); replace HO762 := rB_ HO762 hb; replace HO766 := rB_ HO766 hb; replace HB := Aside0.mk (below_step m_1 hb); clear hb ho35) | ((with_reducible refine gate_dst (N := 64) rfl ?_); (try (refine gate_guard (by rfl) ?_; dsimp only)); refine Kd.R_lit (Kd.int .i64) _ 2 ?hg (N := 64) ?hd (xs := ([0, 4] : List Int)) (inner := [.int .i64 0, .int .i64 4]) (ok := fun _ => True) (okp := fun _ => True) ?hr ?hp (fun _ hk => hk) trivial (Below.refl _ _) (Nat.le_refl _) (by simp) ?_; (case hd => rfl); (case hg => rfl); (case hr => exact hr_); (case hp => exact (Reps.one (show Kd.M (Kd.int .i64) _ _ _ 0 [.int .i64 0] from rfl) (Reps.one (show Kd.M (Kd.int .i64) _ _ _ 4 [.int .i64 4] from rfl) (Reps.none _ _)))); intro v772 w36 ho37 hb hg_ hnew_; clear hg_ hnew_; (first | rw [← Ny771.out] at ho37 | (simp only [Int.reduceToNat] at ho37; rw [← Ny771.out] at ho37)); have HO773 := Aside0.mk (Kd.R_lower (Kd.R_new' (Kd.R_new' ho37 (Kd.R_lt (rA_ HO762.out))) (Kd.R_lt (rA_ HO766.out))) (below_size m_1)); replace HO747 := Aside0.mk (Kd.V_elder' (vA_ HO747.out) (Kd.R_base ho37) hb); replace HO750 := rB_ HO750 hb; replace HO762 := Aside0.mk (Kd.R_elder' (rA_ HO762.out) (Kd.R_base ho37) hb); replace HO766 := Aside0.mk (Kd.R_elder' (rA_ HO766.out) (Kd.R_base ho37) hb); replace HO770 := rB_ HO770 hb; replace HB := Aside0.mk (below_step m_1 hb); clear hb ho37; obtain ⟨Ao38, co38, eo38⟩ := Kd.R_slice HO770.out; subst eo38; obtain ⟨Ao39, co39, eo39⟩ := Kd.R_slice HO773.out; subst eo39) | (go_at_call 53; (with_reducible refine (pylonlaw28_gives.calls k _ _ t745 _ _ y768 4 9 _ _ y771 true _ ?side1 ?side2 ?side3 ?side4 ?side5 ?side6 A13.out).mono ?_); (case side1 => exact cA_ (Kd.V_reads' HO747.out).2.2); (case side2 => exact (Kd.V_reads' HO747.out).2.1); (case side3 => exact cA_ (Kd.R_reads' HO770.out).2.2); (case side4 => exact (Kd.R_reads' HO770.out).2.1); (case side5 => exact cA_ (Kd.R_reads' HO773.out).2.2); (case side6 => exact (Kd.R_reads' HO773.out).2.1); rintro e w40 ⟨rfl, hb⟩; replace HB := Aside0.mk (below_step m_1 hb); clear hb; (try clear hk)))
         go_ret
         exact ⟨m_5, m_1⟩
        ·rw [if_neg c16] at H
         cases H
       ·rw [if_neg c15] at H
        cases H
      ·rw [if_neg c14] at H
       cases H
     ·rw [if_neg c12] at H
      cases H
    ·rw [if_neg c10] at H
     cases H
   ·rw [if_neg c8] at H
    cases H
  ·rw [if_neg c7] at H
   cases H
 ·rw [if_neg c6] at H
  cases H
theorem ck1 : ckF exU [true, true] = 0 := by simp [ckF, chk, ckU, checkF, exU, wrongF, wrongFrom, cutB, afterB, inB, maxF, qsum, wrap64]
theorem ck2 : ckF exU [false, true] = 0 := by simp [ckF, chk, ckU, checkF, exU, wrongF, wrongFrom, cutB, afterB, inB, maxF, qsum, wrap64]
theorem pc1 : piecesOf 0 exU [true, true] = [(0, 3, 1), (0, 4, 3), (1, 3, 2), (1, 3, 3)] := by decide
theorem pc2 : piecesOf 0 exU [false, true] = [(1, 3, 2), (1, 3, 3)] := by decide
theorem ex_good : ∀ u ∈ exU, goodU u = true := by decide
theorem sr1 : srtP (piecesOf 0 exU [true, true]) = [(0, 3, 1), (1, 3, 2), (1, 3, 3), (0, 4, 3)] := by
  refine (srt_unique (pieces_pre 0 exU [true, true] ex_good) (rs := [(0, 3, 1), (1, 3, 2), (1, 3, 3), (0, 4, 3)]) ?_ (by decide)).symm
  rw [pc1]
  decide
theorem sr2 : srtP (piecesOf 0 exU [false, true]) = [(1, 3, 2), (1, 3, 3)] := by
  refine (srt_unique (pieces_pre 0 exU [false, true] ex_good) (rs := [(1, 3, 2), (1, 3, 3)]) ?_ (by decide)).symm
  rw [pc2]
theorem al7 : allocR exU [true, true] 7 = ([5, 2], 0) := by
  unfold allocR allocRow
  rw [if_pos ck1, sr1]
  decide
theorem al9 : allocR exU [true, true] 9 = ([5, 4], 0) := by
  unfold allocR allocRow
  rw [if_pos ck1, sr1]
  decide
theorem al4 : allocR exU [false, true] 4 = ([0, 4], 0) := by
  unfold allocR allocRow
  rw [if_pos ck2, sr2]
  decide
theorem al1 : allocR exU [true, true] 1 = ([], 8) := by
  unfold allocR
  rw [if_pos ck1]
  decide
theorem al16 : allocR exU [true, true] 16 = ([], 8) := by
  unfold allocR
  rw [if_pos ck1]
  decide
theorem alm : allocR exU [true, true] (-1) = ([], 1) := by
  unfold allocR
  rw [if_pos ck1]
  decide
theorem le_of (l1 : List Bool) (d : Int) (r : List Int) (c : Int) (h : allocR exU l1 d = (r, 0)) (hc : costR exU l1 r = (c, 0)) : leastR exU l1 d = (c, 0) := by
  unfold leastR
  rw [h, if_pos rfl, hc]
theorem same2 (a b : Int) : Evs (fun k => pylonref28_Same.f k [a, b] [a, b]) true := by
  refine ⟨3, fun k hk => ?_⟩
  obtain ⟨m, rfl⟩ : ∃ m, k = m + 3 := ⟨k - 3, by omega⟩
  simp [pylonref28_Same.f, pylonref28_Same.l0, YtelklgdmhnkenaaW.PrintWords.rd, wrap64]
theorem gives_f (l1 : List Bool) (d c a b : Int) (h : allocR exU l1 d = ([a, b], 0)) (hc : costR exU l1 [a, b] = (c, 0)) : Evs (fun k => pylonlaw28_gives.f k exU l1 d c [a, b]) true := by
  unfold pylonlaw28_gives.f
  have h1 := alloc_f exU l1 d
  have h2 := least_f exU l1 d
  have h3 := Cost_f exU l1 [a, b]
  rw [h] at h1
  rw [le_of l1 d _ c h hc] at h2
  rw [hc] at h3
  refine h1.bind (h2.bind (h3.bind ?_))
  simp only [if_true]
  exact (same2 a b).bind (Evs.const rfl)
theorem awake_f : Evs (fun k => pylonlaw28_awake.f k) true := by
  unfold pylonlaw28_awake.f pylonlaw28_ex.f
  simp only [Option.bind_some]
  have hr := Range_f exU [true, true]
  have e : rangeR exU [true, true] = (2, 15, 0) := by unfold rangeR; rw [if_pos ck1]; decide
  rw [e] at hr
  have l1 := least_f exU [true, true] 1
  have l2 := least_f exU [true, true] 16
  have l3 := least_f exU [true, true] (-1)
  have e1 : leastR exU [true, true] 1 = (0, 8) := by unfold leastR; rw [al1]; rfl
  have e2 : leastR exU [true, true] 16 = (0, 8) := by unfold leastR; rw [al16]; rfl
  have e3 : leastR exU [true, true] (-1) = (0, 1) := by unfold leastR; rw [alm]; rfl
  rw [e1] at l1
  rw [e2] at l2
  rw [e3] at l3
  refine hr.bind (l1.bind (l2.bind (l3.bind ?_)))
  simp only [if_true]
  refine (gives_f [true, true] 7 9 5 2 al7 (by unfold costR; rw [if_pos ck1]; decide)).bind ?_
  simp only [if_true]
  refine (gives_f [true, true] 9 14 5 4 al9 (by unfold costR; rw [if_pos ck1]; decide)).bind ?_
  simp only [if_true]
  refine (gives_f [false, true] 4 9 0 4 al4 (by unfold costR; rw [if_pos ck2]; decide)).bind ?_
  simp only [if_true]
  exact Evs.const rfl
end Go.Proofs.Ytelklgdmhnkenaa.U
namespace Go.Proofs.Ytelklgdmhnkenaa.U
attribute [local go_sem] max2_int min2_int max_two min_two max_three min_three max_four min_four
mutual
def pylonlaw28_Long.j0 : Nat → List (S24) → Bool → Option (Bool)
 | 0, _, _ => none
 | k + 1, x0, x13 => if x13 = true then (some true) else (pylonlaw28_Long.l0 k x0 0)
def pylonlaw28_Long.l0 : Nat → List (S24) → Int → Option (Bool)
 | 0, _, _ => none
 | k + 1, x0, x5 => if x5 < (x0.length : Int) then (if 0 ≤ x5 then (if (((rd_T24 x0 x5).f2).length : Int) > 20 then (some true) else (pylonlaw28_Long.l0 k x0 (wrap64 (x5 + 1)))) else (none)) else (some false)
end
def pylonlaw28_Long.f (k : Nat) (l0 : List (S24)) (l1 : List Bool) : Option (Bool) := if (l0.length : Int) > 30 then (pylonlaw28_Long.j0 k l0 true) else (pylonlaw28_Long.j0 k l0 (decide ((l1.length : Int) > 30)))
set_option maxHeartbeats 8000000 in
set_option maxRecDepth 100000 in
theorem pylonlaw28_Long.calls (k : Nat) (A0 : Option Addr) (c0 : Nat) (l0 : List (S24)) (A1 : Option Addr) (c1 : Nat) (l1 : List Bool) (r : Bool) (w : World) (hr0 : Kd.C k24 w A0 l0.length l0) (hc0 : l0.length ≤ c0) (hr1 : Kd.C Kd.bool w A1 l1.length l1) (hc1 : l1.length ≤ c1) (h : pylonlaw28_Long.f k l0 l1 = some r) :
  Calls Try.prog 29 #[.slice A0 l0.length c0, .slice A1 l1.length c1] w fun e w' => e = .returned (.bool r) ∧ Drawn0 w w' := by
 have HR0 := Aside0.mk hr0
 clear hr0 hc0
 clear hr1 hc1
 have H : (if (l0.length : Int) > 30 then (pylonlaw28_Long.j0 k l0 true) else (pylonlaw28_Long.j0 k l0 (decide ((l1.length : Int) > 30)))) = some r := h
 clear h
 have HC3 := Aside0.mk H
 clear H
 go_enter Try.func29, Try.ntmps29
 go_upto_region 1 with (fail)
 go_cut [13] (fun v13 wc => ∃ (kq : Nat) (x13_2 : Bool), v13 = .bool x13_2 ∧ Aside0 (pylonlaw28_Long.j0 kq l0 x13_2 = some r) ∧ Aside0 (kq ≤ k) ∧ Drawn0 w wc)
 case first =>
  have H := HC3.out
  clear HC3
  by_cases c4 : (l0.length : Int) > 30
  ·rw [if_pos c4] at H
   have c4b0 : decide (30 < (l0.length : Int)) = true := decide_eq_true c4
   have c4b1 : decide (30 < l0.length) = true := decide_eq_true (by omega)
   clear c4
   (first | rw [c4b0] | (simp only [i64_w, i32_w]; rw [c4b0]) | skip)
   have H' := Aside0.mk H
   clear H
   go_wp2
   go_meet
   case rel => exact ⟨_, (true), m_9, H', ⟨m_71⟩, m_28⟩
  ·rw [if_neg c4] at H
   have c4b0 : decide (30 < (l0.length : Int)) = false := decide_eq_false c4
   have c4b1 : decide (30 < l0.length) = false := decide_eq_false (by omega)
   clear c4
   (first | rw [c4b0] | (simp only [i64_w, i32_w]; rw [c4b0]) | skip)
   have H' := Aside0.mk H
   clear H
   go_wp2
   go_meet
   case rel => exact ⟨_, (decide ((l1.length : Int) > 30)), m_9, H', ⟨m_71⟩, m_28⟩
 case rest =>
  clear HC3
  (try clear c1); (try clear c2); (try clear p2); (try clear c4); (try clear c4b0); (try clear c4b1)
  obtain ⟨kq, x13_2, rfl, HA, HJ2, ⟨mc2, rfl⟩⟩ := hcut
  cases kq with
  | zero => exact absurd HA.out (by simp [pylonlaw28_Long.j0])
  | succ kj2 =>
   have H := HA.out
   clear HA
   simp only [pylonlaw28_Long.j0] at H
   by_cases c5 : x13_2 = true
   ·subst c5
    have H1 : (some true) = some r := by rw [if_pos rfl] at H; exact H
    clear H
    have H := H1
    clear H1
    obtain rfl := Option.some.inj H
    go_wp2
    go_ret
    exact ⟨m_9, m_28⟩
   ·replace c5 := Bool.eq_false_iff.mpr c5
    subst c5
    have H1 : (pylonlaw28_Long.l0 kj2 l0 0) = some r := by rw [if_neg (show ¬ (false = true) by decide)] at H; exact H
    clear H
    have H := H1
    clear H1
    have H' := Aside0.mk H
    clear H
    go_wp2
    go_loopg [5] kj2 (fun kq v5 w' => ∃ (x5_2 : Int), v5 = .int .i64 x5_2 ∧ Aside0 (pylonlaw28_Long.l0 kq l0 x5_2 = some r) ∧ Aside0 (kq ≤ kj2) ∧ Drawn0 w w')
    case atStart => exact ⟨(0), m_9, H', ⟨Nat.le_refl _⟩, m_28⟩
    case round =>
     clear H'
     (try clear c1); (try clear c2); (try clear p2); (try clear c4); (try clear c4b0); (try clear c4b1); (try clear c5); (try clear p2)
     obtain ⟨x5_2, rfl, HA, HK2, ⟨m2, rfl⟩⟩ := hrel
     cases gk with
     | zero => exact absurd HA.out (by simp [pylonlaw28_Long.l0])
     | succ k2 =>
      have H := HA.out
      clear HA
      simp only [pylonlaw28_Long.l0] at H
      by_cases c6 : x5_2 < (l0.length : Int)
      ·rw [if_pos c6] at H
       have c6b0 : decide (x5_2 < (l0.length : Int)) = true := decide_eq_true c6
       clear c6
       by_cases c7 : 0 ≤ x5_2
       ·rw [if_pos c7] at H
        have c7b0 : decide (0 ≤ x5_2) = true := decide_eq_true c7
        clear c7
        by_cases c8 : (((rd_T24 l0 x5_2).f2).length : Int) > 20
        ·rw [if_pos c8] at H
         have c8b0 : decide (20 < (((rd_T24 l0 x5_2).f2).length : Int)) = true := decide_eq_true c8
         clear c8
         obtain rfl := Option.some.inj H
         have p341 : 0 ≤ (x5_2 : Int) := of_decide_eq_true m_4
         have q341 : x5_2 < (l0.length : Int) := of_decide_eq_true m_4
         obtain ⟨ad341, A341_2, c341_2, e341, hx341_0, hx341_1, hx341_2, hx341_3, hx341_4, hx341_5, hx341_6, hx341_7, hx341_8, hl341_2, hi341_2⟩ := at_T24 HR0.out x5_2 p341 q341
         cases e341
         clear hi341_2 hl341_2
         replace p341 := eq_true p341
         replace q341 := eq_true q341
         go_wp2
         go_ret
         exact ⟨m_9, m_28⟩
        ·rw [if_neg c8] at H
         have c8b0 : decide (20 < (((rd_T24 l0 x5_2).f2).length : Int)) = false := decide_eq_false c8
         clear c8
         have H' := Aside0.mk H
         clear H
         have p341 : 0 ≤ (x5_2 : Int) := of_decide_eq_true m_4
         have q341 : x5_2 < (l0.length : Int) := of_decide_eq_true m_4
         obtain ⟨ad341, A341_2, c341_2, e341, hx341_0, hx341_1, hx341_2, hx341_3, hx341_4, hx341_5, hx341_6, hx341_7, hx341_8, hl341_2, hi341_2⟩ := at_T24 HR0.out x5_2 p341 q341
         cases e341
         clear hi341_2 hl341_2
         replace p341 := eq_true p341
         replace q341 := eq_true q341
         go_wp2
         go_roundg k2
         case measure => have := HJ2.out; have := HK2.out; omega
         case rel => exact ⟨(wrap64 (x5_2 + 1)), m_9, H', ⟨(by have := HJ2.out; have := HK2.out; omega)⟩, m_28⟩
       ·rw [if_neg c7] at H
        exact absurd H (by simp)
      ·rw [if_neg c6] at H
       have c6b0 : decide (x5_2 < (l0.length : Int)) = false := decide_eq_false c6
       clear c6
       obtain rfl := Option.some.inj H
       go_wp2
       go_ret
       exact ⟨m_9, m_28⟩
end Go.Proofs.Ytelklgdmhnkenaa.U
namespace Go.Proofs.Ytelklgdmhnkenaa.U
attribute [local go_sem] max2_int min2_int max_two min_two max_three min_three max_four min_four
theorem KR_0 : ∀ (i : Nat) (us : List S24) (rs : List Int), KR 1 (fun _ => 0) i us rs = sumP us rs
  | _, [], _ => by simp [KR, sumP]
  | _, _ :: _, [] => by simp [KR, sumP]
  | i, u :: us, r :: rs => by rw [KR, sumP, KR_0 (i + 1) us rs]; simp [KU]
theorem wok0 : Wok 1 (fun _ => 0) := ⟨by omega, fun _ _ _ _ _ => Int.le_refl _, fun _ _ _ _ _ _ => by omega⟩
def anyLong : List S24 → Bool
  | [] => false
  | u :: l => decide (20 < u.f2.length) || anyLong l
def longB (l0 : List S24) (l1 : List Bool) : Bool := decide (30 < l0.length) || decide (30 < l1.length) || anyLong l0
theorem long_loop (l0 : List S24) (hl : l0.length ≤ 30) (d : Nat) : ∀ i : Nat, l0.length - i = d → i ≤ l0.length → Evs (fun k => pylonlaw28_Long.l0 k l0 (i : Int)) (anyLong (l0.drop i)) := by
  induction d with
  | zero =>
    intro i hd hi
    obtain rfl : i = l0.length := by omega
    refine Evs.succ (Evs.all fun k => ?_)
    simp only [pylonlaw28_Long.l0]
    rw [if_neg (by omega)]
    simp [anyLong]
  | succ d ih =>
    intro i hd hi
    have hlt : i < l0.length := by omega
    have e1 := rd24 l0 i hlt
    have hd2 : l0.drop i = l0[i] :: l0.drop (i + 1) := List.drop_eq_getElem_cons hlt
    generalize l0[i] = u at e1 hd2
    have h := ih (i + 1) (by omega) (by omega)
    rw [hd2, anyLong]
    refine Evs.succ ?_
    simp only [pylonlaw28_Long.l0, if_pos (show (i : Int) < (l0.length : Int) by omega), if_pos (show (0 : Int) ≤ (i : Int) by omega), e1]
    by_cases c : 20 < u.f2.length
    · simp only [if_pos (show ((u.f2.length : Nat) : Int) > 20 by omega)]
      rw [decide_eq_true c]
      exact Evs.const rfl
    · simp only [if_neg (show ¬ ((u.f2.length : Nat) : Int) > 20 by omega)]
      rw [decide_eq_false c, Bool.false_or, wrap_id (x := (i : Int) + 1) (by omega) (by omega)]
      exact h
theorem Long_f (l0 : List S24) (l1 : List Bool) : Evs (fun k => pylonlaw28_Long.f k l0 l1) (longB l0 l1) := by
  unfold pylonlaw28_Long.f longB
  by_cases c : 30 < l0.length
  · simp only [if_pos (show (l0.length : Int) > 30 by omega)]
    rw [decide_eq_true c, Bool.true_or, Bool.true_or]
    refine Evs.succ (Evs.all fun k => ?_)
    simp only [pylonlaw28_Long.j0, if_true]
  · simp only [if_neg (show ¬ (l0.length : Int) > 30 by omega)]
    rw [decide_eq_false c, Bool.false_or]
    have e : decide ((l1.length : Int) > 30) = decide (30 < l1.length) := by rw [decide_eq_decide]; omega
    rw [e]
    refine Evs.succ ?_
    simp only [pylonlaw28_Long.j0]
    by_cases c2 : 30 < l1.length
    · rw [decide_eq_true c2, Bool.true_or]
      simp only [if_true]
      exact Evs.const rfl
    · rw [decide_eq_false c2, Bool.false_or]
      simp only [if_neg (show ¬ (false = true) by decide)]
      have := long_loop l0 (by omega) l0.length 0 (by omega) (by omega)
      rw [List.drop_zero] at this
      exact this
def wI (n : Nat) (a : Int) : Int := if a ≤ (n : Int) then 1 else 0
theorem wokI (n : Nat) : Wok 1 (wI n) := by
  refine ⟨by omega, fun a b h0 h1 h2 => ?_, fun a b _ _ _ _ => ?_⟩
  · unfold wI; split <;> split <;> omega
  · unfold wI; split <;> split <;> omega
theorem KR_w (n : Nat) : ∀ (i : Nat) (us : List S24) (rs : List Int), rs.length = us.length → KR 1 (wI n) i us rs = sumP us rs + sumL (rs.take (n + 1 - i))
  | _, [], [], _ => by simp [KR, sumP, sumL]
  | _, [], _ :: _, h => by simp at h
  | _, _ :: _, [], h => by simp at h
  | i, u :: us, r :: rs, h => by
    have ih := KR_w n (i + 1) us rs (by simpa using h)
    rw [KR, sumP, ih, KU]
    by_cases hi : i ≤ n
    · have e : wI n (i : Int) = 1 := by unfold wI; rw [if_pos (by omega)]
      rw [e, show n + 1 - i = (n + 1 - (i + 1)) + 1 by omega, List.take_succ_cons, sumL]
      omega
    · have e : wI n (i : Int) = 0 := by unfold wI; rw [if_neg (by omega)]
      rw [e, show n + 1 - i = 0 by omega, show n + 1 - (i + 1) = 0 by omega, List.take_zero, List.take_zero, sumL]
      omega
theorem sumL_append : ∀ (a b : List Int), sumL (a ++ b) = sumL a + sumL b
  | [], b => by simp [sumL]
  | x :: a, b => by rw [List.cons_append, sumL, sumL, sumL_append a b]; omega
theorem sumL_take {l : List Int} {i : Nat} (h : i < l.length) : sumL (l.take (i + 1)) = sumL (l.take i) + l[i] := by
  rw [List.take_succ_eq_append_getElem h, sumL_append]
  simp [sumL]
structure Best (l0 : List S24) (l1 : List Bool) (d : Int) (l : List Int) : Prop where
  len : l.length = l0.length
  ok : allR l0 l1 l = true
  sum : sumL l = d
  le : ∀ r : List Int, r.length = l0.length → allR l0 l1 r = true → sumL r = d → sumP l0 l ≤ sumP l0 r
  lex : ∀ r : List Int, r.length = l0.length → allR l0 l1 r = true → sumL r = d → sumP l0 l = sumP l0 r → ∀ (i : Nat) (h : i < l.length) (h' : i < r.length), l.take i = r.take i → l[i] ≤ r[i]
theorem alloc_best {l0 : List S24} {l1 : List Bool} {d : Int} (hc : ckF l0 l1 = 0) (h0 : leastF l0 l1 ≤ d) (h1 : d ≤ mostF l0 l1) : Best l0 l1 d (allocRow l0 l1 (d - leastF l0 l1)) := by
  obtain ⟨a1, a2, a3, a4⟩ := alloc_opt hc h0 h1
  refine ⟨a1, a2, a3, fun r b1 b2 b3 => ?_, fun r b1 b2 b3 b4 i h h' ht => ?_⟩
  · have := a4 1 (fun _ => 0) wok0 r b1 b2 b3
    rwa [KR_0, KR_0] at this
  · have := a4 1 (wI i) (wokI i) r b1 b2 b3
    rw [KR_w i 0 l0 _ a1, KR_w i 0 l0 _ b1, Nat.sub_zero, sumL_take h, sumL_take h', ht] at this
    omega
theorem cost_is {l0 : List S24} {l1 : List Bool} {row : List Int} (h0 : ckF l0 l1 = 0) (h1 : row.length = l0.length) (h2 : allR l0 l1 row = true) : costR l0 l1 row = (sumP l0 row, 0) := by
  unfold costR
  rw [if_pos h0, if_pos h1, if_pos h2]
theorem allocR_err {l0 : List S24} {l1 : List Bool} {d : Int} (h : (allocR l0 l1 d).2 ≠ 0) : (allocR l0 l1 d).1 = [] ∧ leastR l0 l1 d = (0, (allocR l0 l1 d).2) := by
  refine ⟨?_, by unfold leastR; rw [if_neg h]⟩
  unfold allocR at h ⊢
  split
  · rename_i hc
    rw [if_pos hc] at h
    split
    · rfl
    · rename_i c1
      rw [if_neg c1] at h
      split
      · rfl
      · rename_i c2
        rw [if_neg c2] at h
        split
        · rfl
        · rename_i c3
          rw [if_neg c3] at h
          exact absurd rfl h
  · rfl
theorem allocR_ok {l0 : List S24} {l1 : List Bool} {d : Int} (h : (allocR l0 l1 d).2 = 0) : ckF l0 l1 = 0 ∧ 0 ≤ d ∧ leastF l0 l1 ≤ d ∧ d ≤ mostF l0 l1 ∧ ∃ l, allocR l0 l1 d = (l, 0) ∧ Best l0 l1 d l ∧ leastR l0 l1 d = (sumP l0 l, 0) := by
  have e : leastR l0 l1 d = costR l0 l1 (allocR l0 l1 d).1 := by unfold leastR; rw [if_pos h]
  rw [e]
  clear e
  unfold allocR at h ⊢
  split
  · rename_i hc
    rw [if_pos hc] at h
    split
    · rename_i c1
      rw [if_pos c1] at h
      exact absurd h (by decide)
    · rename_i c1
      rw [if_neg c1] at h
      split
      · rename_i c2
        rw [if_pos c2] at h
        exact absurd h (by decide)
      · rename_i c2
        rw [if_neg c2] at h
        split
        · rename_i c3
          rw [if_pos c3] at h
          exact absurd h (by decide)
        · rename_i c3
          have hb := alloc_best hc (show leastF l0 l1 ≤ d by omega) (show d ≤ mostF l0 l1 by omega)
          exact ⟨hc, by omega, by omega, by omega, _, rfl, hb, cost_is hc hb.len hb.ok⟩
  · rename_i hc
    rw [if_neg hc] at h
    exact absurd h hc
theorem alloc_is {l0 : List S24} {l1 : List Bool} {d : Int} (hc : ckF l0 l1 = 0) (h0 : 0 ≤ d) (h1 : leastF l0 l1 ≤ d) (h2 : d ≤ mostF l0 l1) : (allocR l0 l1 d).2 = 0 := by
  unfold allocR
  rw [if_pos hc, if_neg (by omega), if_neg (by omega), if_neg (by omega)]
end Go.Proofs.Ytelklgdmhnkenaa.U
namespace Go.Proofs.Ytelklgdmhnkenaa.U
attribute [local go_sem] max2_int min2_int max_two min_two max_three min_three max_four min_four
def frac_Equal.f (a0_0 : Bool) (l0_1 : List Int) (a0_2 : Bool) (l0_3 : List Int) (a1_0 : Bool) (l1_1 : List Int) (a1_2 : Bool) (l1_3 : List Int) : Option (Bool) := (frac_Cmp.f a0_0 l0_1 a0_2 l0_3 a1_0 l1_1 a1_2 l1_3).bind fun t946 => (some (t946 == 0))
set_option maxHeartbeats 8000000 in
set_option maxRecDepth 100000 in
theorem frac_Equal.calls (a0_0 : Bool) (A0_1 : Option Addr) (c0_1 : Nat) (l0_1 : List Int) (a0_2 : Bool) (A0_3 : Option Addr) (c0_3 : Nat) (l0_3 : List Int) (a1_0 : Bool) (A1_1 : Option Addr) (c1_1 : Nat) (l1_1 : List Int) (a1_2 : Bool) (A1_3 : Option Addr) (c1_3 : Nat) (l1_3 : List Int) (r : Bool) (w : World) (hr0_1 : Kd.C (Kd.int .u32) w A0_1 l0_1.length l0_1) (hc0_1 : l0_1.length ≤ c0_1) (hr0_3 : Kd.C (Kd.int .u32) w A0_3 l0_3.length l0_3) (hc0_3 : l0_3.length ≤ c0_3) (hr1_1 : Kd.C (Kd.int .u32) w A1_1 l1_1.length l1_1) (hc1_1 : l1_1.length ≤ c1_1) (hr1_3 : Kd.C (Kd.int .u32) w A1_3 l1_3.length l1_3) (hc1_3 : l1_3.length ≤ c1_3) (h : frac_Equal.f a0_0 l0_1 a0_2 l0_3 a1_0 l1_1 a1_2 l1_3 = some r) :
  Calls Try.prog 40 #[.agg #[.bool a0_0, .slice A0_1 l0_1.length c0_1, .bool a0_2, .slice A0_3 l0_3.length c0_3], .agg #[.bool a1_0, .slice A1_1 l1_1.length c1_1, .bool a1_2, .slice A1_3 l1_3.length c1_3]] w fun e w' => e = .returned (.bool r) ∧ Below w.heap.size w w' := by
 have HR0_1 := Aside0.mk hr0_1
 have HC0_1 := Aside0.mk hc0_1
 clear hr0_1 hc0_1
 have HR0_3 := Aside0.mk hr0_3
 have HC0_3 := Aside0.mk hc0_3
 clear hr0_3 hc0_3
 have HR1_1 := Aside0.mk hr1_1
 have HC1_1 := Aside0.mk hc1_1
 clear hr1_1 hc1_1
 have HR1_3 := Aside0.mk hr1_3
 have HC1_3 := Aside0.mk hc1_3
 clear hr1_3 hc1_3
 have HB := Aside0.mk (Below.refl w.heap.size w)
 have H : ((frac_Cmp.f a0_0 l0_1 a0_2 l0_3 a1_0 l1_1 a1_2 l1_3).bind fun t946 => (some (t946 == 0))) = some r := h
 clear h
 replace H := Option.bind_eq_some_iff.mp H
 obtain ⟨t946, A30, H⟩ := H
 replace H : (some (t946 == 0)) = some r := H
 have A3 := Aside0.mk A30
 clear A30
 obtain rfl := Option.some.inj H
 go_enter Try.func40, Try.ntmps40
 go_wp2_with (first | ((with_reducible refine gate_dst (N := 2) rfl ?_); refine box_event ?hg (N := 2) ?hd (cs := #[.bool a0_0, .slice A0_1 l0_1.length c0_1, .bool a0_2, .slice A0_3 l0_3.length c0_3]) (t := 66) ?hr ?_; (case hd => rfl); (case hg => rfl); (case hr => exact hr_); intro gb944 hg w4 hbox hb; have BK944 := Aside0.mk (hbox); replace HB := Aside0.mk (below_step m_1 hb); clear hb hbox hg) | ((with_reducible refine gate_dst (N := 3) rfl ?_); refine box_event ?hg (N := 3) ?hd (cs := #[.bool a1_0, .slice A1_1 l1_1.length c1_1, .bool a1_2, .slice A1_3 l1_3.length c1_3]) (t := 66) ?hr ?_; (case hd => rfl); (case hg => rfl); (case hr => exact hr_); intro gb945 hg w5 hbox hb; have BK945 := Aside0.mk (hbox); replace BK944 := bB_ BK944 hb; replace HB := Aside0.mk (below_step m_96 hb); clear hb hbox hg; obtain ⟨hcz7_0, hcz7_1, hcz7_2, hcz7_3, hfz7_0, hfz7_1, hfz7_2, hfz7_3⟩ := cf4_ BK944; obtain ⟨hcz8_0, hcz8_1, hcz8_2, hcz8_3, hfz8_0, hfz8_1, hfz8_2, hfz8_3⟩ := cf4_ BK945) | ((with_reducible refine gate_callee (f := 64) rfl ?_); refine goesL_ (some 7) rfl rfl Try.func64 m_13 rfl #[.agg #[.bool a0_0, .slice A0_1 l0_1.length c0_1, .bool a0_2, .slice A0_3 l0_3.length c0_3], .agg #[.bool a1_0, .slice A1_1 l1_1.length c1_1, .bool a1_2, .slice A1_3 l1_3.length c1_3]] rfl m_2 ?_; (with_reducible refine (frac_Cmp.calls a0_0 _ _ l0_1 a0_2 _ _ l0_3 a1_0 _ _ l1_1 a1_2 _ _ l1_3 t946 _ ?side1 ?side2 ?side3 ?side4 ?side5 ?side6 ?side7 ?side8 A3.out).mono ?_); (case side1 => exact cA_ (Kd.C_below HR0_1.out HB.out)); (case side2 => exact HC0_1.out); (case side3 => exact cA_ (Kd.C_below HR0_3.out HB.out)); (case side4 => exact HC0_3.out); (case side5 => exact cA_ (Kd.C_below HR1_1.out HB.out)); (case side6 => exact HC1_1.out); (case side7 => exact cA_ (Kd.C_below HR1_3.out HB.out)); (case side8 => exact HC1_3.out); rintro e w9 ⟨rfl, hb⟩; refine ⟨_, rfl, ?_⟩; replace HB := Aside0.mk (below_step m_126 hb); clear hb))
 go_ret
 exact ⟨m_5, m_126⟩
end Go.Proofs.Ytelklgdmhnkenaa.U
namespace Go.Proofs.Ytelklgdmhnkenaa.U
attribute [local go_sem] max2_int min2_int max_two min_two max_three min_three max_four min_four
def pylonlaw28_EnergySingleUnit.j0 : Nat → Int → Bool → Int → Int → List (S99) → Int → Int → Int → Int → Int → Int → Option (Bool)
 | 0, _, _, _, _, _, _, _, _, _, _, _ => none
 | k + 1, x1, x15, x948000, x948001, x948002, x948003, x948004, x948005, x948006, x948007, x948008 => if x15 = true then ((pylonlaw28_awake.f k).bind fun t953 => (some t953)) else ((energy_LeastCost.f k (([(⟨x948000, x948001, x948002, x948003, x948004, x948005, x948006, x948007, x948008⟩ : S24)] : List (S24))) (([true] : List Bool)) x1).bind fun bt960 => (if bt960.2 = 0 then ((frac_FromInt64.f x1).bind fun bt964 => ((step_Cost.f k x948002 bt964.1 bt964.2.1 bt964.2.2.1 bt964.2.2.2).bind fun bt972 => (if bt972.2.2.2.2 = 0 then ((frac_FromInt64.f bt960.1).bind fun bt982 => ((frac_Equal.f bt972.1 bt972.2.1 bt972.2.2.1 bt972.2.2.2.1 bt982.1 bt982.2.1 bt982.2.2.1 bt982.2.2.2).bind fun t990 => (if t990 = true then (if x1 ≥ x948001 then ((unit_Max.f k x948000 x948001 x948002 x948003 x948004 x948005 x948006 x948007 x948008).bind fun t991 => (some (decide (x1 ≤ t991)))) else (none)) else (none)))) else (none)))) else ((unit_Check.f k x948000 x948001 x948002 x948003 x948004 x948005 x948006 x948007 x948008 6).bind fun t962 => (if t962 = 0 then (if x1 < x948001 then (some true) else ((unit_Max.f k x948000 x948001 x948002 x948003 x948004 x948005 x948006 x948007 x948008).bind fun t963 => (some (decide (x1 > t963))))) else (some true)))))
def pylonlaw28_EnergySingleUnit.f (k : Nat) (a0_0 : Int) (a0_1 : Int) (l0_2 : List (S99)) (a0_3 : Int) (a0_4 : Int) (a0_5 : Int) (a0_6 : Int) (a0_7 : Int) (a0_8 : Int) (a1 : Int) : Option (Bool) := (pylonlaw28_Long.f k (([(⟨a0_0, a0_1, l0_2, a0_3, a0_4, a0_5, a0_6, a0_7, a0_8⟩ : S24)] : List (S24))) ([] : List Bool)).bind fun t951 => (if t951 = true then (pylonlaw28_EnergySingleUnit.j0 k a1 true a0_0 a0_1 l0_2 a0_3 a0_4 a0_5 a0_6 a0_7 a0_8) else ((pylonlaw28_awake.f k).bind fun t952 => (pylonlaw28_EnergySingleUnit.j0 k a1 (!t952) a0_0 a0_1 l0_2 a0_3 a0_4 a0_5 a0_6 a0_7 a0_8)))
def pylonlaw28_EnergySingleUnit.T6 : Bool × List (List Nat × List Nat) := (true, [([], []), ([0], [0]), ([], []), ([2], [2]), ([1, 3, 3], [1, 3]), ([4], [4]), ([5], [5]), ([5], [5]), ([], []), ([8, 6, 4, 0, 1, 2, 3, 4, 5, 6, 8], [6, 8]), ([7, 9, 0, 1, 2, 3, 4, 5, 6, 7, 8, 9], [7])])
def pylonlaw28_EnergySingleUnit.B6 : List Nat := [0, 1, 0, 4, 15, 31, 63, 63, 0, 383, 1023]
theorem pylonlaw28_EnergySingleUnit.tab6 : rtab .any (opsOf Try.f15 6) = pylonlaw28_EnergySingleUnit.T6 := by kernel_rfl
theorem pylonlaw28_EnergySingleUnit.bits6 : waitsOk pylonlaw28_EnergySingleUnit.T6.2 pylonlaw28_EnergySingleUnit.B6 = true := by kernel_rfl
def pylonlaw28_EnergySingleUnit.T7 : Bool × List (List Nat × List Nat) := (true, [([], []), ([0], [0]), ([1], [1]), ([2], [2]), ([2], [2]), ([4, 2, 2], [2, 4]), ([3, 5, 5, 2], [2, 3, 5]), ([2, 6], [2, 6]), ([7, 6], [7]), ([8], [8]), ([8], [8]), ([10, 8], [8, 10]), ([9, 11, 8], [8, 9, 11]), ([8, 12], [8, 12]), ([13, 8], [13]), ([14], [14]), ([14], [14]), ([16, 14, 14], [14, 16]), ([15, 17, 14], [14, 15, 17]), ([14, 18], [14, 18]), ([19, 17, 0, 1, 2, 3, 4, 5, 6, 7, 8, 9, 10, 11, 12, 13, 14, 15, 16, 17, 18, 19], [19])])
def pylonlaw28_EnergySingleUnit.B7 : List Nat := [0, 1, 3, 7, 7, 23, 63, 127, 255, 511, 511, 1535, 4095, 8191, 16383, 32767, 32767, 98303, 262143, 524287, 1048575]
theorem pylonlaw28_EnergySingleUnit.tab7 : rtab .any (opsOf Try.f15 7) = pylonlaw28_EnergySingleUnit.T7 := by kernel_rfl
theorem pylonlaw28_EnergySingleUnit.bits7 : waitsOk pylonlaw28_EnergySingleUnit.T7.2 pylonlaw28_EnergySingleUnit.B7 = true := by kernel_rfl
set_option maxHeartbeats 8000000 in
set_option maxRecDepth 100000 in
theorem pylonlaw28_EnergySingleUnit.calls (k : Nat) (a0_0 : Int) (a0_1 : Int) (P0_2_ : Nat → Prop) (A0_2 : Option Addr) (c0_2 : Nat) (l0_2 : List (S99)) (a0_3 : Int) (a0_4 : Int) (a0_5 : Int) (a0_6 : Int) (a0_7 : Int) (a0_8 : Int) (a1 : Int) (r : Bool) (w : World) (hs0_2 : Kd.V k99 99 w w.heap.size (fun k_ => P0_2_ k_) (.slice A0_2 l0_2.length c0_2) l0_2) (h : pylonlaw28_EnergySingleUnit.f k a0_0 a0_1 l0_2 a0_3 a0_4 a0_5 a0_6 a0_7 a0_8 a1 = some r) :
  Calls Try.prog 15 #[.agg #[.int .i64 a0_0, .int .i64 a0_1, .slice A0_2 l0_2.length c0_2, .int .i64 a0_3, .int .i64 a0_4, .int .i64 a0_5, .int .i64 a0_6, .int .i64 a0_7, .int .i64 a0_8], .int .i64 a1] w fun e w' => e = .returned (.bool r) ∧ Below w.heap.size w w' := by
 have hu24 := Try.underlying24
 have hu66 := Try.underlying66
 have HO0_2 := Aside0.mk (show Kd.V k99 99 w w.heap.size (fun k_ => (P0_2_ k_ ∨ w.heap.size ≤ k_)) (.slice A0_2 l0_2.length c0_2) l0_2 from Kd.V_mono hs0_2 (fun k_ hk => .inl hk))
 have HB := Aside0.mk (Below.refl w.heap.size w)
 have H : ((pylonlaw28_Long.f k (([(⟨a0_0, a0_1, l0_2, a0_3, a0_4, a0_5, a0_6, a0_7, a0_8⟩ : S24)] : List (S24))) ([] : List Bool)).bind fun t951 => (if t951 = true then (pylonlaw28_EnergySingleUnit.j0 k a1 true a0_0 a0_1 l0_2 a0_3 a0_4 a0_5 a0_6 a0_7 a0_8) else ((pylonlaw28_awake.f k).bind fun t952 => (pylonlaw28_EnergySingleUnit.j0 k a1 (!t952) a0_0 a0_1 l0_2 a0_3 a0_4 a0_5 a0_6 a0_7 a0_8)))) = some r := h
 clear h
 have HC3 := Aside0.mk H
 clear H
 go_enter Try.func15, Try.ntmps15
 go_upto_region 1 with (first | ((with_reducible refine gate_dst (N := 2) rfl ?_); refine box_event ?hg (N := 2) ?hd (cs := #[.int .i64 a0_0, .int .i64 a0_1, .slice A0_2 l0_2.length c0_2, .int .i64 a0_3, .int .i64 a0_4, .int .i64 a0_5, .int .i64 a0_6, .int .i64 a0_7, .int .i64 a0_8]) (t := 24) ?hr ?_; (case hd => rfl); (case hg => rfl); (case hr => exact hr_); intro gb947 hg w4 hbox hb; have BK947 := Aside0.mk (hbox); have GW947 := gW_ (w := w) hg m_1; have GE947 := gW_ (w := w) hg m_1; replace HO0_2 := vE_ HO0_2 hg hb; replace HB := Aside0.mk (below_step m_1 hb); clear hb hbox hg))
 (try simp only [Act.put, List.setIfInBounds_toArray, List.set_cons_zero, List.set_cons_succ])
 go_cut [15] (fun v15 wc => ∃ (kq : Nat) (x15_2 : Bool), v15 = .bool x15_2 ∧ Aside0 (pylonlaw28_EnergySingleUnit.j0 kq a1 x15_2 a0_0 a0_1 l0_2 a0_3 a0_4 a0_5 a0_6 a0_7 a0_8 = some r) ∧ Aside0 (kq ≤ k) ∧ Aside0 (Kd.V k99 99 wc w.heap.size (fun k_ => (P0_2_ k_ ∨ w.heap.size ≤ k_) ∧ k_ ≠ gb947) (.slice A0_2 l0_2.length c0_2) l0_2) ∧ Aside0 (wc.heap[gb947]? = some (.cells #[.int .i64 a0_0, .int .i64 a0_1, (.slice A0_2 l0_2.length c0_2), .int .i64 a0_3, .int .i64 a0_4, .int .i64 a0_5, .int .i64 a0_6, .int .i64 a0_7, .int .i64 a0_8] 24 (0, 0))) ∧ Aside0 (Below w.heap.size w wc))
 case first =>
  have H := HC3.out
  clear HC3
  obtain ⟨y948, hy948⟩ : ∃ y_ : List (S24), y_ = (([(⟨a0_0, a0_1, l0_2, a0_3, a0_4, a0_5, a0_6, a0_7, a0_8⟩ : S24)] : List (S24))) := ⟨_, rfl⟩
  replace H : ((pylonlaw28_Long.f k y948 ([] : List Bool)).bind fun t951 => (if t951 = true then (pylonlaw28_EnergySingleUnit.j0 k a1 true a0_0 a0_1 l0_2 a0_3 a0_4 a0_5 a0_6 a0_7 a0_8) else ((pylonlaw28_awake.f k).bind fun t952 => (pylonlaw28_EnergySingleUnit.j0 k a1 (!t952) a0_0 a0_1 l0_2 a0_3 a0_4 a0_5 a0_6 a0_7 a0_8)))) = some r := by first | (rw [hy948]; with_reducible exact H) | (have H2_ := (Option.bind_some _ _).symm.trans H; rw [hy948]; with_reducible exact H2_) | (have H2_ := (Option.bind_some _ _).symm.trans H; with_reducible exact H2_) | with_reducible exact H | (rw [hy948]; exact H) | exact H
  have Ny948 := Aside0.mk hy948
  clear hy948
  replace H := Option.bind_eq_some_iff.mp H
  obtain ⟨t951, A50, H⟩ := H
  replace H : (if t951 = true then (pylonlaw28_EnergySingleUnit.j0 k a1 true a0_0 a0_1 l0_2 a0_3 a0_4 a0_5 a0_6 a0_7 a0_8) else ((pylonlaw28_awake.f k).bind fun t952 => (pylonlaw28_EnergySingleUnit.j0 k a1 (!t952) a0_0 a0_1 l0_2 a0_3 a0_4 a0_5 a0_6 a0_7 a0_8))) = some r := H
  have A5 := Aside0.mk A50
  clear A50
  by_cases c6 : t951 = true
  ·subst c6
   have H1 : (pylonlaw28_EnergySingleUnit.j0 k a1 true a0_0 a0_1 l0_2 a0_3 a0_4 a0_5 a0_6 a0_7 a0_8) = some r := by rw [if_pos rfl] at H; exact H
   clear H
   have H := H1
   clear H1
   have H' := Aside0.mk H
   clear H
   obtain ⟨hcz7_0, hcz7_1, hcz7_2, hcz7_3, hcz7_4, hcz7_5, hcz7_6, hcz7_7, hcz7_8, hfz7_0, hfz7_1, hfz7_2, hfz7_3, hfz7_4, hfz7_5, hfz7_6, hfz7_7, hfz7_8⟩ := cf9_ BK947
   go_wp2_with (first | ((with_reducible refine gate_dst (N := 10) rfl ?_); refine Kd.N_lit k24 _ 24 ?hg (N' := 10) ?hd (xs := ([(⟨a0_0, a0_1, l0_2, a0_3, a0_4, a0_5, a0_6, a0_7, a0_8⟩ : S24)] : List (S24))) (inner := [.int .i64 a0_0, .int .i64 a0_1, .slice A0_2 l0_2.length c0_2, .int .i64 a0_3, .int .i64 a0_4, .int .i64 a0_5, .int .i64 a0_6, .int .i64 a0_7, .int .i64 a0_8]) (ok := (fun k_ => (P0_2_ k_ ∨ w.heap.size ≤ k_) ∧ k_ ≠ gb947)) (okp := (fun k_ => (P0_2_ k_ ∨ w.heap.size ≤ k_) ∧ k_ ≠ gb947)) ?hr ?hp (fun _ hk => hk) ((show ∀ k_, w4.heap.size ≤ k_ → (fun k_ => (P0_2_ k_ ∨ w.heap.size ≤ k_) ∧ k_ ≠ gb947) k_ from fun k_ hk => ⟨(.inr (Nat.le_trans (below_size m_3) hk)), Kd.freshB (bA_ BK947.out) k_ hk⟩) _ (Nat.le_refl _)) (Below.refl _ _) (Nat.le_refl _) (by simp) ?_; (case hd => rfl); (case hg => rfl); (case hr => exact hr_); (case hp => exact (Reps.c9 (show Kd.FK k24 _ _ (⟨a0_0, a0_1, l0_2, a0_3, a0_4, a0_5, a0_6, a0_7, a0_8⟩ : S24) [.int .i64 a0_0, .int .i64 a0_1, .slice A0_2 l0_2.length c0_2, .int .i64 a0_3, .int .i64 a0_4, .int .i64 a0_5, .int .i64 a0_6, .int .i64 a0_7, .int .i64 a0_8] from (k24_mkF _ _ (⟨a0_0, a0_1, l0_2, a0_3, a0_4, a0_5, a0_6, a0_7, a0_8⟩ : S24) (Kd.V_reads' (Kd.V_mono (ok' := (fun k_ => (P0_2_ k_ ∨ w.heap.size ≤ k_) ∧ k_ ≠ gb947)) (HO0_2.out) (fun k_ hk => ⟨hk.1, hk.2⟩))).2.1 (Kd.V_F (Kd.V_mono (ok' := (fun k_ => (P0_2_ k_ ∨ w.heap.size ≤ k_) ∧ k_ ≠ gb947)) (HO0_2.out) (fun k_ hk => ⟨hk.1, hk.2⟩))))) (Reps.none _ _))); intro v949 w8 ho9 hb hg_ hnew_; clear hg_ hnew_; (first | rw [← Ny948.out] at ho9 | (simp only [Int.reduceToNat] at ho9; rw [← Ny948.out] at ho9)); have HO950 := Aside0.mk (Kd.N_lower ho9 (below_size m_3)); replace HO0_2 := Aside0.mk (Kd.V_elder' (vA_ HO0_2.out) (Kd.N_base ho9) hb); replace BK947 := bB_ BK947 hb; replace HB := Aside0.mk (below_step m_3 hb); clear hb ho9; obtain ⟨Ao10, co10, eo10⟩ := Kd.N_slice HO950.out; subst eo10) | ((with_reducible refine gate_callee (f := 29) rfl ?_); refine goesL_ (some 11) rfl rfl Try.func29 m_13 rfl #[.slice Ao10 y948.length co10, .slice none 0 0] rfl m_2 ?_; (refine (pylonlaw28_Long.calls k _ _ y948 _ _ ([] : List Bool) true _ ?side1 ?side2 ?side3 ?side4 A5.out).mono ?_); (case side1 => exact cA_ (Kd.N_reads' HO950.out).2.2); (case side2 => exact (Kd.N_reads' HO950.out).2.1); (case side3 => exact Kd.C_nil _ _); (case side4 => exact Nat.le_refl _); rintro e w' ⟨rfl, ⟨nd, rfl⟩⟩; refine ⟨_, rfl, ?_⟩))
   go_meet
   case rel => exact ⟨_, (true), m_9, H', ⟨m_71⟩, ⟨m_133⟩, ⟨m_146⟩, ⟨m_3⟩⟩
  ·replace c6 := Bool.eq_false_iff.mpr c6
   subst c6
   have H1 : ((pylonlaw28_awake.f k).bind fun t952 => (pylonlaw28_EnergySingleUnit.j0 k a1 (!t952) a0_0 a0_1 l0_2 a0_3 a0_4 a0_5 a0_6 a0_7 a0_8)) = some r := by rw [if_neg (show ¬ (false = true) by decide)] at H; exact H
   clear H
   have H := H1
   clear H1
   replace H := Option.bind_eq_some_iff.mp H
   obtain ⟨t952, A110, H⟩ := H
   replace H : (pylonlaw28_EnergySingleUnit.j0 k a1 (!t952) a0_0 a0_1 l0_2 a0_3 a0_4 a0_5 a0_6 a0_7 a0_8) = some r := H
   have A11 := Aside0.mk A110
   clear A110
   have H' := Aside0.mk H
   clear H
   obtain ⟨hcz12_0, hcz12_1, hcz12_2, hcz12_3, hcz12_4, hcz12_5, hcz12_6, hcz12_7, hcz12_8, hfz12_0, hfz12_1, hfz12_2, hfz12_3, hfz12_4, hfz12_5, hfz12_6, hfz12_7, hfz12_8⟩ := cf9_ BK947
   go_wp2_with (first | ((with_reducible refine gate_dst (N := 10) rfl ?_); refine Kd.N_lit k24 _ 24 ?hg (N' := 10) ?hd (xs := ([(⟨a0_0, a0_1, l0_2, a0_3, a0_4, a0_5, a0_6, a0_7, a0_8⟩ : S24)] : List (S24))) (inner := [.int .i64 a0_0, .int .i64 a0_1, .slice A0_2 l0_2.length c0_2, .int .i64 a0_3, .int .i64 a0_4, .int .i64 a0_5, .int .i64 a0_6, .int .i64 a0_7, .int .i64 a0_8]) (ok := (fun k_ => (P0_2_ k_ ∨ w.heap.size ≤ k_) ∧ k_ ≠ gb947)) (okp := (fun k_ => (P0_2_ k_ ∨ w.heap.size ≤ k_) ∧ k_ ≠ gb947)) ?hr ?hp (fun _ hk => hk) ((show ∀ k_, w4.heap.size ≤ k_ → (fun k_ => (P0_2_ k_ ∨ w.heap.size ≤ k_) ∧ k_ ≠ gb947) k_ from fun k_ hk => ⟨(.inr (Nat.le_trans (below_size m_3) hk)), Kd.freshB (bA_ BK947.out) k_ hk⟩) _ (Nat.le_refl _)) (Below.refl _ _) (Nat.le_refl _) (by simp) ?_; (case hd => rfl); (case hg => rfl); (case hr => exact hr_); (case hp => exact (Reps.c9 (show Kd.FK k24 _ _ (⟨a0_0, a0_1, l0_2, a0_3, a0_4, a0_5, a0_6, a0_7, a0_8⟩ : S24) [.int .i64 a0_0, .int .i64 a0_1, .slice A0_2 l0_2.length c0_2, .int .i64 a0_3, .int .i64 a0_4, .int .i64 a0_5, .int .i64 a0_6, .int .i64 a0_7, .int .i64 a0_8] from (k24_mkF _ _ (⟨a0_0, a0_1, l0_2, a0_3, a0_4, a0_5, a0_6, a0_7, a0_8⟩ : S24) (Kd.V_reads' (Kd.V_mono (ok' := (fun k_ => (P0_2_ k_ ∨ w.heap.size ≤ k_) ∧ k_ ≠ gb947)) (HO0_2.out) (fun k_ hk => ⟨hk.1, hk.2⟩))).2.1 (Kd.V_F (Kd.V_mono (ok' := (fun k_ => (P0_2_ k_ ∨ w.heap.size ≤ k_) ∧ k_ ≠ gb947)) (HO0_2.out) (fun k_ hk => ⟨hk.1, hk.2⟩))))) (Reps.none _ _))); intro v949 w13 ho14 hb hg_ hnew_; clear hg_ hnew_; (first | rw [← Ny948.out] at ho14 | (simp only [Int.reduceToNat] at ho14; rw [← Ny948.out] at ho14)); have HO950 := Aside0.mk (Kd.N_lower ho14 (below_size m_3)); replace HO0_2 := Aside0.mk (Kd.V_elder' (vA_ HO0_2.out) (Kd.N_base ho14) hb); replace BK947 := bB_ BK947 hb; replace HB := Aside0.mk (below_step m_3 hb); clear hb ho14; obtain ⟨Ao15, co15, eo15⟩ := Kd.N_slice HO950.out; subst eo15) | ((with_reducible refine gate_callee (f := 29) rfl ?_); refine goesL_ (some 11) rfl rfl Try.func29 m_13 rfl #[.slice Ao15 y948.length co15, .slice none 0 0] rfl m_2 ?_; (refine (pylonlaw28_Long.calls k _ _ y948 _ _ ([] : List Bool) false _ ?side1 ?side2 ?side3 ?side4 A5.out).mono ?_); (case side1 => exact cA_ (Kd.N_reads' HO950.out).2.2); (case side2 => exact (Kd.N_reads' HO950.out).2.1); (case side3 => exact Kd.C_nil _ _); (case side4 => exact Nat.le_refl _); rintro e w' ⟨rfl, ⟨nd, rfl⟩⟩; refine ⟨_, rfl, ?_⟩) | (go_at_call 30; (with_reducible refine (pylonlaw28_awake.calls k  t952 _ A11.out).mono ?_); rintro e w16 ⟨rfl, hb⟩; replace HO0_2 := vB_ HO0_2 hb; replace HO950 := Aside0.mk (Kd.N_below (by (with_reducible repeat (first | apply Kd.N_alloc | apply Kd.N_drewN | apply Kd.N_drew)); exact HO950.out) hb); replace BK947 := bB_ BK947 hb; replace HB := Aside0.mk (below_step m_3 hb); clear hb))
   go_meet
   case rel => exact ⟨_, (!t952), m_9, H', ⟨m_71⟩, ⟨m_133⟩, ⟨m_146⟩, ⟨m_3⟩⟩
 case rest =>
  clear HC3
  (try clear c1); (try clear c2); (try clear p2); (try clear c6); (try clear c9); (try clear c15); (try clear hcz12_0); (try clear hcz12_1); (try clear hcz12_2); (try clear hcz12_3); (try clear hcz12_4); (try clear hcz12_5); (try clear hcz12_6); (try clear hcz12_7); (try clear hcz12_8); (try clear hcz7_0); (try clear hcz7_1); (try clear hcz7_2); (try clear hcz7_3); (try clear hcz7_4); (try clear hcz7_5); (try clear hcz7_6); (try clear hcz7_7); (try clear hcz7_8); (try clear hfz12_0); (try clear hfz12_1); (try clear hfz12_2); (try clear hfz12_3); (try clear hfz12_4); (try clear hfz12_5); (try clear hfz12_6); (try clear hfz12_7); (try clear hfz12_8); (try clear hfz7_0); (try clear hfz7_1); (try clear hfz7_2); (try clear hfz7_3); (try clear hfz7_4); (try clear hfz7_5); (try clear hfz7_6); (try clear hfz7_7); (try clear hfz7_8)
  obtain ⟨kq, x15_2, rfl, HA, HJ2, HO_948002, BK947, HB⟩ := hcut
  cases kq with
  | zero => exact absurd HA.out (by simp [pylonlaw28_EnergySingleUnit.j0])
  | succ kj2 =>
   have H := HA.out
   clear HA
   simp only [pylonlaw28_EnergySingleUnit.j0] at H
   by_cases c17 : x15_2 = true
   ·subst c17
    have H1 : ((pylonlaw28_awake.f kj2).bind fun t953 => (some t953)) = some r := by rw [if_pos rfl] at H; exact H
    clear H
    have H := H1
    clear H1
    replace H := Option.bind_eq_some_iff.mp H
    obtain ⟨t953, A180, H⟩ := H
    replace H : (some t953) = some r := H
    have A18 := Aside0.mk A180
    clear A180
    obtain rfl := Option.some.inj H
    go_wp2_with (first | ((with_reducible refine gate_callee (f := 30) rfl ?_); refine goesL_ (some 16) rfl rfl Try.func30 m_13 rfl #[] rfl m_2 ?_; (with_reducible refine (pylonlaw28_awake.calls kj2  t953 _ A18.out).mono ?_); rintro e w19 ⟨rfl, hb⟩; refine ⟨_, rfl, ?_⟩; replace HO_948002 := vB_ HO_948002 hb; replace BK947 := bB_ BK947 hb; replace HB := Aside0.mk (below_step m_3 hb); clear hb))
    go_ret
    exact ⟨m_5, m_3⟩
   ·replace c17 := Bool.eq_false_iff.mpr c17
    subst c17
    have H1 : ((energy_LeastCost.f kj2 (([(⟨a0_0, a0_1, l0_2, a0_3, a0_4, a0_5, a0_6, a0_7, a0_8⟩ : S24)] : List (S24))) (([true] : List Bool)) a1).bind fun bt960 => (if bt960.2 = 0 then ((frac_FromInt64.f a1).bind fun bt964 => ((step_Cost.f kj2 l0_2 bt964.1 bt964.2.1 bt964.2.2.1 bt964.2.2.2).bind fun bt972 => (if bt972.2.2.2.2 = 0 then ((frac_FromInt64.f bt960.1).bind fun bt982 => ((frac_Equal.f bt972.1 bt972.2.1 bt972.2.2.1 bt972.2.2.2.1 bt982.1 bt982.2.1 bt982.2.2.1 bt982.2.2.2).bind fun t990 => (if t990 = true then (if a1 ≥ a0_1 then ((unit_Max.f kj2 a0_0 a0_1 l0_2 a0_3 a0_4 a0_5 a0_6 a0_7 a0_8).bind fun t991 => (some (decide (a1 ≤ t991)))) else (none)) else (none)))) else (none)))) else ((unit_Check.f kj2 a0_0 a0_1 l0_2 a0_3 a0_4 a0_5 a0_6 a0_7 a0_8 6).bind fun t962 => (if t962 = 0 then (if a1 < a0_1 then (some true) else ((unit_Max.f kj2 a0_0 a0_1 l0_2 a0_3 a0_4 a0_5 a0_6 a0_7 a0_8).bind fun t963 => (some (decide (a1 > t963))))) else (some true))))) = some r := by rw [if_neg (show ¬ (false = true) by decide)] at H; exact H
    clear H
    have H := H1
    clear H1
    obtain ⟨y954, hy954⟩ : ∃ y_ : List (S24), y_ = (([(⟨a0_0, a0_1, l0_2, a0_3, a0_4, a0_5, a0_6, a0_7, a0_8⟩ : S24)] : List (S24))) := ⟨_, rfl⟩
    replace H : ((energy_LeastCost.f kj2 y954 (([true] : List Bool)) a1).bind fun bt960 => (if bt960.2 = 0 then ((frac_FromInt64.f a1).bind fun bt964 => ((step_Cost.f kj2 l0_2 bt964.1 bt964.2.1 bt964.2.2.1 bt964.2.2.2).bind fun bt972 => (if bt972.2.2.2.2 = 0 then ((frac_FromInt64.f bt960.1).bind fun bt982 => ((frac_Equal.f bt972.1 bt972.2.1 bt972.2.2.1 bt972.2.2.2.1 bt982.1 bt982.2.1 bt982.2.2.1 bt982.2.2.2).bind fun t990 => (if t990 = true then (if a1 ≥ a0_1 then ((unit_Max.f kj2 a0_0 a0_1 l0_2 a0_3 a0_4 a0_5 a0_6 a0_7 a0_8).bind fun t991 => (some (decide (a1 ≤ t991)))) else (none)) else (none)))) else (none)))) else ((unit_Check.f kj2 a0_0 a0_1 l0_2 a0_3 a0_4 a0_5 a0_6 a0_7 a0_8 6).bind fun t962 => (if t962 = 0 then (if a1 < a0_1 then (some true) else ((unit_Max.f kj2 a0_0 a0_1 l0_2 a0_3 a0_4 a0_5 a0_6 a0_7 a0_8).bind fun t963 => (some (decide (a1 > t963))))) else (some true))))) = some r := by first | (rw [hy954]; with_reducible exact H) | (have H2_ := (Option.bind_some _ _).symm.trans H; rw [hy954]; with_reducible exact H2_) | (have H2_ := (Option.bind_some _ _).symm.trans H; with_reducible exact H2_) | with_reducible exact H | (rw [hy954]; exact H) | exact H
    have Ny954 := Aside0.mk hy954
    clear hy954
    obtain ⟨y957, hy957⟩ : ∃ y_ : List Bool, y_ = (([true] : List Bool)) := ⟨_, rfl⟩
    replace H : ((energy_LeastCost.f kj2 y954 y957 a1).bind fun bt960 => (if bt960.2 = 0 then ((frac_FromInt64.f a1).bind fun bt964 => ((step_Cost.f kj2 l0_2 bt964.1 bt964.2.1 bt964.2.2.1 bt964.2.2.2).bind fun bt972 => (if bt972.2.2.2.2 = 0 then ((frac_FromInt64.f bt960.1).bind fun bt982 => ((frac_Equal.f bt972.1 bt972.2.1 bt972.2.2.1 bt972.2.2.2.1 bt982.1 bt982.2.1 bt982.2.2.1 bt982.2.2.2).bind fun t990 => (if t990 = true then (if a1 ≥ a0_1 then ((unit_Max.f kj2 a0_0 a0_1 l0_2 a0_3 a0_4 a0_5 a0_6 a0_7 a0_8).bind fun t991 => (some (decide (a1 ≤ t991)))) else (none)) else (none)))) else (none)))) else ((unit_Check.f kj2 a0_0 a0_1 l0_2 a0_3 a0_4 a0_5 a0_6 a0_7 a0_8 6).bind fun t962 => (if t962 = 0 then (if a1 < a0_1 then (some true) else ((unit_Max.f kj2 a0_0 a0_1 l0_2 a0_3 a0_4 a0_5 a0_6 a0_7 a0_8).bind fun t963 => (some (decide (a1 > t963))))) else (some true))))) = some r := by first | (rw [hy957]; with_reducible exact H) | (have H2_ := (Option.bind_some _ _).symm.trans H; rw [hy957]; with_reducible exact H2_) | (have H2_ := (Option.bind_some _ _).symm.trans H; with_reducible exact H2_) | with_reducible exact H | (rw [hy957]; exact H) | exact H
    have Ny957 := Aside0.mk hy957
    clear hy957
    replace H := Option.bind_eq_some_iff.mp H
    obtain ⟨⟨t960, t961⟩, A200, H⟩ := H
    replace H : (if t961 = 0 then ((frac_FromInt64.f a1).bind fun bt964 => ((step_Cost.f kj2 l0_2 bt964.1 bt964.2.1 bt964.2.2.1 bt964.2.2.2).bind fun bt972 => (if bt972.2.2.2.2 = 0 then ((frac_FromInt64.f t960).bind fun bt982 => ((frac_Equal.f bt972.1 bt972.2.1 bt972.2.2.1 bt972.2.2.2.1 bt982.1 bt982.2.1 bt982.2.2.1 bt982.2.2.2).bind fun t990 => (if t990 = true then (if a1 ≥ a0_1 then ((unit_Max.f kj2 a0_0 a0_1 l0_2 a0_3 a0_4 a0_5 a0_6 a0_7 a0_8).bind fun t991 => (some (decide (a1 ≤ t991)))) else (none)) else (none)))) else (none)))) else ((unit_Check.f kj2 a0_0 a0_1 l0_2 a0_3 a0_4 a0_5 a0_6 a0_7 a0_8 6).bind fun t962 => (if t962 = 0 then (if a1 < a0_1 then (some true) else ((unit_Max.f kj2 a0_0 a0_1 l0_2 a0_3 a0_4 a0_5 a0_6 a0_7 a0_8).bind fun t963 => (some (decide (a1 > t963))))) else (some true)))) = some r := H
    have A20 := Aside0.mk A200
    clear A200
    by_cases c21 : t961 = 0
    ·rw [if_pos c21] at H
     have c21b0 : (t961 == 0) = true := beq_iff_eq.mpr c21
     have c21b1 : (t961 != 0) = false := bne_eq_false_iff_eq.mpr c21
     clear c21
     replace H := Option.bind_eq_some_iff.mp H
     obtain ⟨⟨t964, t965, t968, t969⟩, A220, H⟩ := H
     replace H : ((step_Cost.f kj2 l0_2 t964 t965 t968 t969).bind fun bt972 => (if bt972.2.2.2.2 = 0 then ((frac_FromInt64.f t960).bind fun bt982 => ((frac_Equal.f bt972.1 bt972.2.1 bt972.2.2.1 bt972.2.2.2.1 bt982.1 bt982.2.1 bt982.2.2.1 bt982.2.2.2).bind fun t990 => (if t990 = true then (if a1 ≥ a0_1 then ((unit_Max.f kj2 a0_0 a0_1 l0_2 a0_3 a0_4 a0_5 a0_6 a0_7 a0_8).bind fun t991 => (some (decide (a1 ≤ t991)))) else (none)) else (none)))) else (none))) = some r := H
     have A22 := Aside0.mk A220
     clear A220
     replace H := Option.bind_eq_some_iff.mp H
     obtain ⟨⟨t972, t973, t976, t977, t980⟩, A230, H⟩ := H
     replace H : (if t980 = 0 then ((frac_FromInt64.f t960).bind fun bt982 => ((frac_Equal.f t972 t973 t976 t977 bt982.1 bt982.2.1 bt982.2.2.1 bt982.2.2.2).bind fun t990 => (if t990 = true then (if a1 ≥ a0_1 then ((unit_Max.f kj2 a0_0 a0_1 l0_2 a0_3 a0_4 a0_5 a0_6 a0_7 a0_8).bind fun t991 => (some (decide (a1 ≤ t991)))) else (none)) else (none)))) else (none)) = some r := H
     have A23 := Aside0.mk A230
     clear A230
     by_cases c24 : t980 = 0
     ·rw [if_pos c24] at H
      have c24b0 : (t980 == 0) = true := beq_iff_eq.mpr c24
      have c24b1 : (t980 != 0) = false := bne_eq_false_iff_eq.mpr c24
      clear c24
      replace H := Option.bind_eq_some_iff.mp H
      obtain ⟨⟨t982, t983, t986, t987⟩, A250, H⟩ := H
      replace H : ((frac_Equal.f t972 t973 t976 t977 t982 t983 t986 t987).bind fun t990 => (if t990 = true then (if a1 ≥ a0_1 then ((unit_Max.f kj2 a0_0 a0_1 l0_2 a0_3 a0_4 a0_5 a0_6 a0_7 a0_8).bind fun t991 => (some (decide (a1 ≤ t991)))) else (none)) else (none))) = some r := H
      have A25 := Aside0.mk A250
      clear A250
      replace H := Option.bind_eq_some_iff.mp H
      obtain ⟨t990, A260, H⟩ := H
      replace H : (if t990 = true then (if a1 ≥ a0_1 then ((unit_Max.f kj2 a0_0 a0_1 l0_2 a0_3 a0_4 a0_5 a0_6 a0_7 a0_8).bind fun t991 => (some (decide (a1 ≤ t991)))) else (none)) else (none)) = some r := H
      have A26 := Aside0.mk A260
      clear A260
      by_cases c27 : t990 = true
      ·subst c27
       have H1 : (if a1 ≥ a0_1 then ((unit_Max.f kj2 a0_0 a0_1 l0_2 a0_3 a0_4 a0_5 a0_6 a0_7 a0_8).bind fun t991 => (some (decide (a1 ≤ t991)))) else (none)) = some r := by rw [if_pos rfl] at H; exact H
       clear H
       have H := H1
       clear H1
       by_cases c28 : a1 ≥ a0_1
       ·rw [if_pos c28] at H
        have c28b0 : decide (a0_1 ≤ a1) = true := decide_eq_true c28
        clear c28
        replace H := Option.bind_eq_some_iff.mp H
        obtain ⟨t991, A290, H⟩ := H
        replace H : (some (decide (a1 ≤ t991))) = some r := H
        have A29 := Aside0.mk A290
        clear A290
        obtain rfl := Option.some.inj H
        obtain ⟨hcz30_0, hcz30_1, hcz30_2, hcz30_3, hcz30_4, hcz30_5, hcz30_6, hcz30_7, hcz30_8, hfz30_0, hfz30_1, hfz30_2, hfz30_3, hfz30_4, hfz30_5, hfz30_6, hfz30_7, hfz30_8⟩ := cf9_ BK947
        try go_wp2_with (first | ((with_reducible refine gate_dst (N := 19) rfl ?_); refine Kd.N_lit k24 _ 24 ?hg (N' := 19) ?hd (xs := ([(⟨a0_0, a0_1, l0_2, a0_3, a0_4, a0_5, a0_6, a0_7, a0_8⟩ : S24)] : List (S24))) (inner := [.int .i64 a0_0, .int .i64 a0_1, .slice A0_2 l0_2.length c0_2, .int .i64 a0_3, .int .i64 a0_4, .int .i64 a0_5, .int .i64 a0_6, .int .i64 a0_7, .int .i64 a0_8]) (ok := (fun k_ => (P0_2_ k_ ∨ w.heap.size ≤ k_) ∧ k_ ≠ gb947)) (okp := (fun k_ => (P0_2_ k_ ∨ w.heap.size ≤ k_) ∧ k_ ≠ gb947)) ?hr ?hp (fun _ hk => hk) ((show ∀ k_, wc.heap.size ≤ k_ → (fun k_ => (P0_2_ k_ ∨ w.heap.size ≤ k_) ∧ k_ ≠ gb947) k_ from fun k_ hk => ⟨(.inr (Nat.le_trans (below_size m_3) hk)), Kd.freshB (bA_ BK947.out) k_ hk⟩) _ (Nat.le_refl _)) (Below.refl _ _) (Nat.le_refl _) (by simp) ?_; (case hd => rfl); (case hg => rfl); (case hr => exact hr_); (case hp => exact (Reps.c9 (show Kd.FK k24 _ _ (⟨a0_0, a0_1, l0_2, a0_3, a0_4, a0_5, a0_6, a0_7, a0_8⟩ : S24) [.int .i64 a0_0, .int .i64 a0_1, .slice A0_2 l0_2.length c0_2, .int .i64 a0_3, .int .i64 a0_4, .int .i64 a0_5, .int .i64 a0_6, .int .i64 a0_7, .int .i64 a0_8] from (k24_mkF _ _ (⟨a0_0, a0_1, l0_2, a0_3, a0_4, a0_5, a0_6, a0_7, a0_8⟩ : S24) (Kd.V_reads' (Kd.V_mono (ok' := (fun k_ => (P0_2_ k_ ∨ w.heap.size ≤ k_) ∧ k_ ≠ gb947)) (HO_948002.out) (fun k_ hk => ⟨hk.1, hk.2⟩))).2.1 (Kd.V_F (Kd.V_mono (ok' := (fun k_ => (P0_2_ k_ ∨ w.heap.size ≤ k_) ∧ k_ ≠ gb947)) (HO_948002.out) (fun k_ hk => ⟨hk.1, hk.2⟩))))) (Reps.none _ _))); intro v955 w31 ho32 hb hg_ hnew_; clear hg_ hnew_; (first | rw [← Ny954.out] at ho32 | (simp only [Int.reduceToNat] at ho32; rw [← Ny954.out] at ho32)); have HO956 := Aside0.mk (Kd.N_lower ho32 (below_size m_3)); replace HO_948002 := Aside0.mk (Kd.V_elder' (vA_ HO_948002.out) (Kd.N_base ho32) hb); replace BK947 := bB_ BK947 hb; replace HB := Aside0.mk (below_step m_3 hb); clear hb ho32) | ((with_reducible refine gate_dst (N := 20) rfl ?_); refine Kd.R_lit Kd.bool _ 4 ?hg (N := 20) ?hd (xs := ([true] : List Bool)) (inner := [.bool true]) (ok := fun _ => True) (okp := fun _ => True) ?hr ?hp (fun _ hk => hk) trivial (Below.refl _ _) (Nat.le_refl _) (by simp) ?_; (case hd => rfl); (case hg => rfl); (case hr => exact hr_); (case hp => exact (Reps.one (show Kd.M Kd.bool _ _ _ true [.bool true] from rfl) (Reps.none _ _))); intro v958 w33 ho34 hb hg_ hnew_; clear hg_ hnew_; (first | rw [← Ny957.out] at ho34 | (simp only [Int.reduceToNat] at ho34; rw [← Ny957.out] at ho34)); have HO959 := Aside0.mk (Kd.R_lower (Kd.R_newM (M := fun k_ => (w.heap.size ≤ k_)) ho34 (below_size m_3) (fun k_ h_ => h_)) (below_size m_3)); replace HO_948002 := Aside0.mk (Kd.V_elder' (vA_ HO_948002.out) (Kd.R_base ho34) hb); replace HO956 := Aside0.mk (Kd.N_elder' m_14 (Kd.R_base ho34) hb); replace BK947 := bB_ BK947 hb; replace HB := Aside0.mk (below_step m_3 hb); clear hb ho34; obtain ⟨Ao35, co35, eo35⟩ := Kd.N_slice HO956.out; subst eo35; obtain ⟨Ao36, co36, eo36⟩ := Kd.R_slice HO959.out; subst eo36) | ((with_reducible refine gate_callee (f := 33) rfl ?_); refine goesL_ (some 22) rfl rfl Try.func33 m_13 rfl #[.slice Ao35 y954.length co35, .slice Ao36 y957.length co36, .int .i64 a1] rfl m_2 ?_; (with_reducible refine (energy_LeastCost.calls kj2 _ _ y954 _ _ y957 a1 t960 t961 _ ?side1 ?side2 ?side3 ?side4 A20.out).mono ?_); (case side1 => exact cA_ (Kd.N_reads' HO956.out).2.2); (case side2 => exact (Kd.N_reads' HO956.out).2.1); (case side3 => exact cA_ (Kd.R_reads' HO959.out).2.2); (case side4 => exact (Kd.R_reads' HO959.out).2.1); rintro e w37 ⟨rfl, hb⟩; refine ⟨_, rfl, ?_⟩; replace HO_948002 := vB_ HO_948002 hb; replace HO956 := Aside0.mk (Kd.N_below m_14 hb); replace HO959 := rB_ HO959 hb; replace BK947 := bB_ BK947 hb; replace HB := Aside0.mk (below_step m_3 hb); clear hb))
        replace HO_948002 := vD_ HO_948002
        replace HO956 := Aside0.mk (Kd.N_drew HO956.out)
        replace HO959 := Aside0.mk (Kd.R_drew HO959.out)
        replace BK947 := bD_ BK947
        replace HB := Aside0.mk (below_drew1 HB.out)
        refine start_ (n := 11) (S := fun w' => w'.cell? ⟨gb947, 0, none⟩ = some (.int .i64 a0_0) ∧ w'.cell? ⟨gb947, 1, none⟩ = some (.int .i64 a0_1) ∧ w'.cell? ⟨gb947, 2, none⟩ = some (.slice A0_2 l0_2.length c0_2) ∧ w'.cell? ⟨gb947, 3, none⟩ = some (.int .i64 a0_3) ∧ w'.cell? ⟨gb947, 4, none⟩ = some (.int .i64 a0_4) ∧ w'.cell? ⟨gb947, 5, none⟩ = some (.int .i64 a0_5) ∧ w'.cell? ⟨gb947, 6, none⟩ = some (.int .i64 a0_6) ∧ w'.cell? ⟨gb947, 7, none⟩ = some (.int .i64 a0_7) ∧ w'.cell? ⟨gb947, 8, none⟩ = some (.int .i64 a0_8)) (ds := []) #[false, false, false, false, false, false, false, false, false, false, false] m_13 rfl rfl ⟨(blk_cell BK947.out 0).trans rfl, (blk_cell BK947.out 1).trans rfl, (blk_cell BK947.out 2).trans rfl, (blk_cell BK947.out 3).trans rfl, (blk_cell BK947.out 4).trans rfl, (blk_cell BK947.out 5).trans rfl, (blk_cell BK947.out 6).trans rfl, (blk_cell BK947.out 7).trans rfl, (blk_cell BK947.out 8).trans rfl⟩ (fun hHeld => ?_); refine with_tabW pylonlaw28_EnergySingleUnit.tab6 pylonlaw28_EnergySingleUnit.bits6 (fun HT_ HW_ => ?_)
        generalize w37.drew = w38 at HO_948002 HO956 HO959 BK947 HB hHeld ⊢
        refine pA_ 0 HT_.out ?_
        refine pA_ 2 HT_.out ?_
        refine tA_ 1 HT_.out HW_.out hHeld ?_
        refine join_ (σ := Value × Value × Value × Value × Nat) 2 #[true, true, true, true, true, true, true, true, true, false, false] (fun s_ => [(46, .agg #[.bool t964, s_.1, .bool t968, s_.2.1]), (47, .tuple #[.agg #[.bool t972, s_.2.2.1, .bool t976, s_.2.2.2.1], .int .i64 t980]), (7, .pointer (some ⟨s_.2.2.2.2, 0, none⟩)), (42, .tuple #[.agg #[.bool t972, s_.2.2.1, .bool t976, s_.2.2.2.1], .int .i64 t980]), (48, .agg #[.bool t972, s_.2.2.1, .bool t976, s_.2.2.2.1]), (49, .int .i64 t980)]) (fun s_ w' => (w'.cell? ⟨gb947, 0, none⟩ = some (.int .i64 a0_0) ∧ w'.cell? ⟨gb947, 1, none⟩ = some (.int .i64 a0_1) ∧ w'.cell? ⟨gb947, 2, none⟩ = some (.slice A0_2 l0_2.length c0_2) ∧ w'.cell? ⟨gb947, 3, none⟩ = some (.int .i64 a0_3) ∧ w'.cell? ⟨gb947, 4, none⟩ = some (.int .i64 a0_4) ∧ w'.cell? ⟨gb947, 5, none⟩ = some (.int .i64 a0_5) ∧ w'.cell? ⟨gb947, 6, none⟩ = some (.int .i64 a0_6) ∧ w'.cell? ⟨gb947, 7, none⟩ = some (.int .i64 a0_7) ∧ w'.cell? ⟨gb947, 8, none⟩ = some (.int .i64 a0_8)) ∧ (Kd.N k24 24 w' w.heap.size (fun k_ => (P0_2_ k_ ∨ w.heap.size ≤ k_) ∧ some k_ ≠ (.slice Ao36 y957.length co36 : Value).ownBlock ∧ k_ ≠ gb947 ∧ k_ ≠ s_.2.2.2.2) (.slice Ao35 y954.length co35) y954) ∧ (Kd.R Kd.bool 4 w' w.heap.size (fun k_ => (w.heap.size ≤ k_)) (.slice Ao36 y957.length co36) y957) ∧ (Kd.V (Kd.int .u32) 117 w' w.heap.size (fun k_ => (P0_2_ k_ ∨ w.heap.size ≤ k_) ∧ some k_ ≠ (.slice Ao35 y954.length co35 : Value).ownBlock ∧ some k_ ≠ (.slice Ao36 y957.length co36 : Value).ownBlock ∧ k_ ≠ gb947 ∧ k_ ≠ s_.2.2.2.2) s_.1 t965) ∧ (Kd.V (Kd.int .u32) 117 w' w.heap.size (fun k_ => (P0_2_ k_ ∨ w.heap.size ≤ k_) ∧ some k_ ≠ (.slice Ao35 y954.length co35 : Value).ownBlock ∧ some k_ ≠ (.slice Ao36 y957.length co36 : Value).ownBlock ∧ k_ ≠ gb947 ∧ k_ ≠ s_.2.2.2.2) s_.2.1 t969) ∧ (Kd.V (Kd.int .u32) 117 w' w.heap.size (fun k_ => (P0_2_ k_ ∨ w.heap.size ≤ k_) ∧ some k_ ≠ (.slice Ao35 y954.length co35 : Value).ownBlock ∧ some k_ ≠ (.slice Ao36 y957.length co36 : Value).ownBlock ∧ k_ ≠ gb947 ∧ k_ ≠ s_.2.2.2.2) s_.2.2.1 t973) ∧ (Kd.V (Kd.int .u32) 117 w' w.heap.size (fun k_ => (P0_2_ k_ ∨ w.heap.size ≤ k_) ∧ some k_ ≠ (.slice Ao35 y954.length co35 : Value).ownBlock ∧ some k_ ≠ (.slice Ao36 y957.length co36 : Value).ownBlock ∧ k_ ≠ gb947 ∧ k_ ≠ s_.2.2.2.2) s_.2.2.2.1 t977) ∧ (Kd.V k99 99 w' w.heap.size (fun k_ => (P0_2_ k_ ∨ w.heap.size ≤ k_) ∧ some k_ ≠ (.slice Ao35 y954.length co35 : Value).ownBlock ∧ some k_ ≠ (.slice Ao36 y957.length co36 : Value).ownBlock ∧ k_ ≠ gb947 ∧ k_ ≠ s_.2.2.2.2) (.slice A0_2 l0_2.length c0_2) l0_2) ∧ (w'.heap[gb947]? = some (.cells #[.int .i64 a0_0, .int .i64 a0_1, .slice A0_2 l0_2.length c0_2, .int .i64 a0_3, .int .i64 a0_4, .int .i64 a0_5, .int .i64 a0_6, .int .i64 a0_7, .int .i64 a0_8] 24 (0, 0))) ∧ (w'.heap[s_.2.2.2.2]? = some (.cells #[.bool false, .slice none 0 0, .bool false, .slice none 0 0] 66 (0, 0))) ∧ (w.heap.size ≤ s_.2.2.2.2) ∧ (w.heap.size ≤ s_.2.2.2.2) ∧ (gb947 ≠ s_.2.2.2.2) ∧ (s_.2.2.2.2 ≠ gb947) ∧ (Below w.heap.size w w')) ?_ ?_
        rotate_left
        ·intro hCont
         refine two_ (i := 3) (j := 8) (Ni := some 46) (Nj := some 7) #[true, true, true, true, false, false, false, false, false, false, false] #[true, true, true, false, false, false, false, false, true, false, false] rfl rfl rfl rfl (two_of HT_.out m_13) (by decide) (by decide) (fun K hK => ?_) (fun K hK => ?_)
         ·skip
          refine goes_ Try.func39 m_13 rfl #[.int .i64 a1] (by rfl) rfl rfl m_2 ?_
          with_reducible refine (frac_FromInt64.calls a1 t964 t965 t968 t969 _ A22.out).mono ?_
          rintro e w39 ⟨v966, v970, rfl, ho0, ho1, hb⟩
          refine ⟨_, rfl, ?_⟩
          have HO967 := Aside0.mk (Kd.V_lower (Kd.V_mono (ok' := fun k_ => (P0_2_ k_ ∨ w.heap.size ≤ k_) ∧ some k_ ≠ (.slice Ao35 y954.length co35 : Value).ownBlock ∧ some k_ ≠ (.slice Ao36 y957.length co36 : Value).ownBlock ∧ k_ ≠ gb947) ho0 (fun k_ hk_ => ⟨(.inr (Nat.le_trans (below_size m_3) hk_)), (Kd.fresh' (Kd.N_lt m_14) k_ hk_), (Kd.fresh' (Kd.R_lt (rA_ HO959.out)) k_ hk_), (Kd.freshB (bA_ BK947.out) k_ hk_)⟩)) (below_size m_3))
          have HO971 := Aside0.mk (Kd.V_lower (Kd.V_mono (ok' := fun k_ => (P0_2_ k_ ∨ w.heap.size ≤ k_) ∧ some k_ ≠ (.slice Ao35 y954.length co35 : Value).ownBlock ∧ some k_ ≠ (.slice Ao36 y957.length co36 : Value).ownBlock ∧ k_ ≠ gb947) ho1 (fun k_ hk_ => ⟨(.inr (Nat.le_trans (below_size m_3) hk_)), (Kd.fresh' (Kd.N_lt m_14) k_ hk_), (Kd.fresh' (Kd.R_lt (rA_ HO959.out)) k_ hk_), (Kd.freshB (bA_ BK947.out) k_ hk_)⟩)) (below_size m_3))
          replace HO_948002 := vB_ HO_948002 hb
          replace HO956 := Aside0.mk (Kd.N_below m_14 hb)
          replace HO959 := rB_ HO959 hb
          replace BK947 := bB_ BK947 hb
          replace HB := Aside0.mk (below_step m_3 hb)
          (try clear hb); (try clear hb2); (try clear hk); (try clear hi); (try clear ho0); (try clear ho1)
          obtain ⟨Ao40, co40, eo40⟩ := Kd.V_slice HO967.out
          (first | subst eo40 | (injection eo40 with f1_ f2_ f3_; have f4_ := f1_.symm; have f5_ := f3_.symm; clear f1_ f2_ f3_; subst f4_; subst f5_))
          obtain ⟨Ao41, co41, eo41⟩ := Kd.V_slice HO971.out
          (first | subst eo41 | (injection eo41 with f1_ f2_ f3_; have f4_ := f1_.symm; have f5_ := f3_.symm; clear f1_ f2_ f3_; subst f4_; subst f5_))
          refine hK.out _ _ ⟨(blk_cell BK947.out 0).trans rfl, (blk_cell BK947.out 1).trans rfl, (blk_cell BK947.out 2).trans rfl, (blk_cell BK947.out 3).trans rfl, (blk_cell BK947.out 4).trans rfl, (blk_cell BK947.out 5).trans rfl, (blk_cell BK947.out 6).trans rfl, (blk_cell BK947.out 7).trans rfl, (blk_cell BK947.out 8).trans rfl⟩ (fun hHeld => ?_)
          clear hK K
          refine norm_ (a' := ?_) ?_ ?_
          rotate_left
          ·show Act.put _ (some 46) _ = _
           simp only [Act.put, List.setIfInBounds_toArray, List.set_cons_zero, List.set_cons_succ, i64_w, i32_w]
           rfl
          refine two_ (i := 4) (j := 8) (Ni := some 47) (Nj := some 7) #[true, true, true, true, true, false, false, false, false, false, false] #[true, true, true, true, false, false, false, false, true, false, false] rfl rfl rfl rfl (two_of HT_.out m_13) (by decide) (by decide) (fun K hK => ?_) (fun K hK => ?_)
          ·skip
           refine goes_ Try.func38 m_13 rfl #[.slice A0_2 l0_2.length c0_2, .agg #[.bool t964, .slice Ao40 t965.length co40, .bool t968, .slice Ao41 t969.length co41]] (by rfl) rfl rfl m_2 ?_
           with_reducible refine (step_Cost.calls kj2 _ _ l0_2 t964 (fun k_ => ((P0_2_ k_ ∨ w.heap.size ≤ k_) ∧ (some k_ ≠ (.slice Ao35 y954.length co35 : Value).ownBlock ∧ (some k_ ≠ (.slice Ao36 y957.length co36 : Value).ownBlock ∧ k_ ≠ gb947)))) _ _ t965 t968 (fun k_ => ((P0_2_ k_ ∨ w.heap.size ≤ k_) ∧ (some k_ ≠ (.slice Ao35 y954.length co35 : Value).ownBlock ∧ (some k_ ≠ (.slice Ao36 y957.length co36 : Value).ownBlock ∧ k_ ≠ gb947)))) _ _ t969 t972 t973 t976 t977 t980 _ ?side1 ?side2 ?side3 ?side4 A23.out).mono ?_
           (case side1 => exact cA_ (Kd.V_reads' HO_948002.out).2.2)
           (case side2 => exact (Kd.V_reads' HO_948002.out).2.1)
           (case side3 => exact HO967.out)
           (case side4 => exact HO971.out)
           rintro e w42 ⟨v974, v978, rfl, ho0, ho1, hb⟩
           refine ⟨_, rfl, ?_⟩
           have HO975 := Aside0.mk (Kd.V_lower (Kd.V_mono (ok' := fun k_ => (P0_2_ k_ ∨ w.heap.size ≤ k_) ∧ some k_ ≠ (.slice Ao35 y954.length co35 : Value).ownBlock ∧ some k_ ≠ (.slice Ao36 y957.length co36 : Value).ownBlock ∧ k_ ≠ gb947) ho0 (fun k_ hk_ => ⟨Or.elim hk_ (fun hs_ => Or.elim hs_ (fun hs_ => hs_.1) (fun hs_ => hs_.1)) (fun hn_ => (.inr (Nat.le_trans (below_size m_3) hn_))), Or.elim hk_ (fun hs_ => Or.elim hs_ (fun hs_ => hs_.2.1) (fun hs_ => hs_.2.1)) (fun hn_ => (Kd.fresh' (Kd.N_lt m_14) k_ hn_)), Or.elim hk_ (fun hs_ => Or.elim hs_ (fun hs_ => hs_.2.2.1) (fun hs_ => hs_.2.2.1)) (fun hn_ => (Kd.fresh' (Kd.R_lt (rA_ HO959.out)) k_ hn_)), Or.elim hk_ (fun hs_ => Or.elim hs_ (fun hs_ => hs_.2.2.2) (fun hs_ => hs_.2.2.2)) (fun hn_ => (Kd.freshB (bA_ BK947.out) k_ hn_))⟩)) (below_size m_3))
           have HO979 := Aside0.mk (Kd.V_lower (Kd.V_mono (ok' := fun k_ => (P0_2_ k_ ∨ w.heap.size ≤ k_) ∧ some k_ ≠ (.slice Ao35 y954.length co35 : Value).ownBlock ∧ some k_ ≠ (.slice Ao36 y957.length co36 : Value).ownBlock ∧ k_ ≠ gb947) ho1 (fun k_ hk_ => ⟨Or.elim hk_ (fun hs_ => Or.elim hs_ (fun hs_ => hs_.1) (fun hs_ => hs_.1)) (fun hn_ => (.inr (Nat.le_trans (below_size m_3) hn_))), Or.elim hk_ (fun hs_ => Or.elim hs_ (fun hs_ => hs_.2.1) (fun hs_ => hs_.2.1)) (fun hn_ => (Kd.fresh' (Kd.N_lt m_14) k_ hn_)), Or.elim hk_ (fun hs_ => Or.elim hs_ (fun hs_ => hs_.2.2.1) (fun hs_ => hs_.2.2.1)) (fun hn_ => (Kd.fresh' (Kd.R_lt (rA_ HO959.out)) k_ hn_)), Or.elim hk_ (fun hs_ => Or.elim hs_ (fun hs_ => hs_.2.2.2) (fun hs_ => hs_.2.2.2)) (fun hn_ => (Kd.freshB (bA_ BK947.out) k_ hn_))⟩)) (below_size m_3))
           replace HO_948002 := vB_ HO_948002 hb
           replace HO956 := Aside0.mk (Kd.N_below m_14 hb)
           replace HO959 := rB_ HO959 hb
           replace HO967 := vB_ HO967 hb
           replace HO971 := vB_ HO971 hb
           replace BK947 := bB_ BK947 hb
           replace HB := Aside0.mk (below_step m_3 hb)
           (try clear hb); (try clear hb2); (try clear hk); (try clear hi); (try clear ho0); (try clear ho1)
           refine hK.out _ _ ⟨(blk_cell BK947.out 0).trans rfl, (blk_cell BK947.out 1).trans rfl, (blk_cell BK947.out 2).trans rfl, (blk_cell BK947.out 3).trans rfl, (blk_cell BK947.out 4).trans rfl, (blk_cell BK947.out 5).trans rfl, (blk_cell BK947.out 6).trans rfl, (blk_cell BK947.out 7).trans rfl, (blk_cell BK947.out 8).trans rfl⟩ (fun hHeld => ?_)
           clear hK K
           refine norm_ (a' := ?_) ?_ ?_
           rotate_left
           ·show Act.put _ (some 47) _ = _
            simp only [Act.put, List.setIfInBounds_toArray, List.set_cons_zero, List.set_cons_succ, i64_w, i32_w]
            rfl
           refine pA_ 5 HT_.out ?_
           refine pA_ 6 HT_.out ?_
           refine pA_ 7 HT_.out ?_
           refine one_ (i := 8) (N := some 7) #[true, true, true, true, true, true, true, true, true, false, false] rfl rfl (one_of HT_.out m_13) (by decide) (fun K hK => ?_)
           refine box_step ?hg (N := 7) ?hd (cs := #[.bool false, .slice none 0 0, .bool false, .slice none 0 0]) (t := 66) ?hr ?_; (case hd => rfl); (case hg => rfl); (case hr => exact hr_)
           intro gb981 hg w43 hbox hb
           have BK981 := Aside0.mk (hbox)
           have GW981 := gW_ (w := w) hg m_3
           have GE981 := gW_ (w := w) hg m_3
           have NB947_981 := nl_ BK947 hg
           have NB981_947 := ng_ BK947 hg
           replace HO_948002 := vE_ HO_948002 hg hb
           replace HO956 := Aside0.mk (Kd.N_below (Kd.N_elderB m_14 gb981 (Nat.le_of_eq hg.symm)) hb)
           replace HO959 := rB_ HO959 hb
           replace HO967 := vE_ HO967 hg hb
           replace HO971 := vE_ HO971 hg hb
           replace HO975 := vE_ HO975 hg hb
           replace HO979 := vE_ HO979 hg hb
           replace BK947 := bB_ BK947 hb
           replace HB := Aside0.mk (below_step m_3 hb)
           clear hb hbox hg
           refine hK.out _ _ ⟨(blk_cell BK947.out 0).trans rfl, (blk_cell BK947.out 1).trans rfl, (blk_cell BK947.out 2).trans rfl, (blk_cell BK947.out 3).trans rfl, (blk_cell BK947.out 4).trans rfl, (blk_cell BK947.out 5).trans rfl, (blk_cell BK947.out 6).trans rfl, (blk_cell BK947.out 7).trans rfl, (blk_cell BK947.out 8).trans rfl⟩ (fun hHeld => ?_)
           clear hK K
           refine norm_ (a' := ?_) ?_ ?_
           rotate_left
           ·show Act.put _ (some 7) _ = _
            simp only [Act.put, List.setIfInBounds_toArray, List.set_cons_zero, List.set_cons_succ, i64_w, i32_w]
            rfl
           exact norm_ m_129 (hCont (.slice Ao40 t965.length co40, .slice Ao41 t969.length co41, v974, v978, gb981) _ ⟨hHeld, m_94, m_116, m_123, m_122, (by (with_reducible repeat (first | apply Kd.V_alloc | apply Kd.V_drewN | apply Kd.V_drew)); exact Kd.V_mono HO975.out (fun _ hk => ⟨hk.1.1, ⟨hk.1.2.1, ⟨hk.1.2.2.1, ⟨hk.1.2.2.2, hk.2⟩⟩⟩⟩)), (by (with_reducible repeat (first | apply Kd.V_alloc | apply Kd.V_drewN | apply Kd.V_drew)); exact Kd.V_mono HO979.out (fun _ hk => ⟨hk.1.1, ⟨hk.1.2.1, ⟨hk.1.2.2.1, ⟨hk.1.2.2.2, hk.2⟩⟩⟩⟩)), m_79, (bA_ BK947.out), (bA_ BK981.out), GW981.out, GE981.out, NB947_981.out, NB981_947.out, m_7⟩)
          ·skip
           refine box_step ?hg (N := 7) ?hd (cs := #[.bool false, .slice none 0 0, .bool false, .slice none 0 0]) (t := 66) ?hr ?_; (case hd => rfl); (case hg => rfl); (case hr => exact hr_)
           intro gb981 hg w40 hbox hb
           have BK981 := Aside0.mk (hbox)
           have GW981 := gW_ (w := w) hg m_3
           have GE981 := gW_ (w := w) hg m_3
           have NB947_981 := nl_ BK947 hg
           have NB981_947 := ng_ BK947 hg
           replace HO_948002 := vE_ HO_948002 hg hb
           replace HO956 := Aside0.mk (Kd.N_below (Kd.N_elderB m_14 gb981 (Nat.le_of_eq hg.symm)) hb)
           replace HO959 := rB_ HO959 hb
           replace HO967 := vE_ HO967 hg hb
           replace HO971 := vE_ HO971 hg hb
           replace BK947 := bB_ BK947 hb
           replace HB := Aside0.mk (below_step m_3 hb)
           clear hb hbox hg
           obtain ⟨Ao41, co41, eo41⟩ := Kd.V_slice HO967.out
           (first | subst eo41 | (injection eo41 with f1_ f2_ f3_; have f4_ := f1_.symm; have f5_ := f3_.symm; clear f1_ f2_ f3_; subst f4_; subst f5_))
           obtain ⟨Ao42, co42, eo42⟩ := Kd.V_slice HO971.out
           (first | subst eo42 | (injection eo42 with f1_ f2_ f3_; have f4_ := f1_.symm; have f5_ := f3_.symm; clear f1_ f2_ f3_; subst f4_; subst f5_))
           refine hK.out _ _ ⟨(blk_cell BK947.out 0).trans rfl, (blk_cell BK947.out 1).trans rfl, (blk_cell BK947.out 2).trans rfl, (blk_cell BK947.out 3).trans rfl, (blk_cell BK947.out 4).trans rfl, (blk_cell BK947.out 5).trans rfl, (blk_cell BK947.out 6).trans rfl, (blk_cell BK947.out 7).trans rfl, (blk_cell BK947.out 8).trans rfl⟩ (fun hHeld => ?_)
           clear hK K
           refine norm_ (a' := ?_) ?_ ?_
           rotate_left
           ·show Act.put _ (some 7) _ = _
            simp only [Act.put, List.setIfInBounds_toArray, List.set_cons_zero, List.set_cons_succ, i64_w, i32_w]
            rfl
           refine cB_1 4 Try.func38 (args := #[.slice A0_2 l0_2.length c0_2, .agg #[.bool t964, .slice Ao41 t965.length co41, .bool t968, .slice Ao42 t969.length co42]]) ?_
           with_reducible refine (step_Cost.calls kj2 _ _ l0_2 t964 (fun k_ => (((P0_2_ k_ ∨ w.heap.size ≤ k_) ∧ (some k_ ≠ (.slice Ao35 y954.length co35 : Value).ownBlock ∧ (some k_ ≠ (.slice Ao36 y957.length co36 : Value).ownBlock ∧ k_ ≠ gb947))) ∧ k_ ≠ gb981)) _ _ t965 t968 (fun k_ => (((P0_2_ k_ ∨ w.heap.size ≤ k_) ∧ (some k_ ≠ (.slice Ao35 y954.length co35 : Value).ownBlock ∧ (some k_ ≠ (.slice Ao36 y957.length co36 : Value).ownBlock ∧ k_ ≠ gb947))) ∧ k_ ≠ gb981)) _ _ t969 t972 t973 t976 t977 t980 _ ?side1 ?side2 ?side3 ?side4 A23.out).mono ?_
           (case side1 => exact cA_ (Kd.V_reads' HO_948002.out).2.2)
           (case side2 => exact (Kd.V_reads' HO_948002.out).2.1)
           (case side3 => exact HO967.out)
           (case side4 => exact HO971.out)
           rintro e w43 ⟨v974, v978, rfl, ho0, ho1, hb⟩
           refine ⟨_, rfl, ?_⟩
           have HO975 := Aside0.mk (Kd.V_lower (Kd.V_mono (ok' := fun k_ => (P0_2_ k_ ∨ w.heap.size ≤ k_) ∧ some k_ ≠ (.slice Ao35 y954.length co35 : Value).ownBlock ∧ some k_ ≠ (.slice Ao36 y957.length co36 : Value).ownBlock ∧ k_ ≠ gb947 ∧ k_ ≠ gb981) ho0 (fun k_ hk_ => ⟨Or.elim hk_ (fun hs_ => Or.elim hs_ (fun hs_ => hs_.1.1) (fun hs_ => hs_.1.1)) (fun hn_ => (.inr (Nat.le_trans (below_size m_7) hn_))), Or.elim hk_ (fun hs_ => Or.elim hs_ (fun hs_ => hs_.1.2.1) (fun hs_ => hs_.1.2.1)) (fun hn_ => (Kd.fresh' (Kd.N_lt m_14) k_ hn_)), Or.elim hk_ (fun hs_ => Or.elim hs_ (fun hs_ => hs_.1.2.2.1) (fun hs_ => hs_.1.2.2.1)) (fun hn_ => (Kd.fresh' (Kd.R_lt (rA_ HO959.out)) k_ hn_)), Or.elim hk_ (fun hs_ => Or.elim hs_ (fun hs_ => hs_.1.2.2.2) (fun hs_ => hs_.1.2.2.2)) (fun hn_ => (Kd.freshB (bA_ BK947.out) k_ hn_)), Or.elim hk_ (fun hs_ => Or.elim hs_ (fun hs_ => hs_.2) (fun hs_ => hs_.2)) (fun hn_ => (Kd.freshB (bA_ BK981.out) k_ hn_))⟩)) (below_size m_7))
           have HO979 := Aside0.mk (Kd.V_lower (Kd.V_mono (ok' := fun k_ => (P0_2_ k_ ∨ w.heap.size ≤ k_) ∧ some k_ ≠ (.slice Ao35 y954.length co35 : Value).ownBlock ∧ some k_ ≠ (.slice Ao36 y957.length co36 : Value).ownBlock ∧ k_ ≠ gb947 ∧ k_ ≠ gb981) ho1 (fun k_ hk_ => ⟨Or.elim hk_ (fun hs_ => Or.elim hs_ (fun hs_ => hs_.1.1) (fun hs_ => hs_.1.1)) (fun hn_ => (.inr (Nat.le_trans (below_size m_7) hn_))), Or.elim hk_ (fun hs_ => Or.elim hs_ (fun hs_ => hs_.1.2.1) (fun hs_ => hs_.1.2.1)) (fun hn_ => (Kd.fresh' (Kd.N_lt m_14) k_ hn_)), Or.elim hk_ (fun hs_ => Or.elim hs_ (fun hs_ => hs_.1.2.2.1) (fun hs_ => hs_.1.2.2.1)) (fun hn_ => (Kd.fresh' (Kd.R_lt (rA_ HO959.out)) k_ hn_)), Or.elim hk_ (fun hs_ => Or.elim hs_ (fun hs_ => hs_.1.2.2.2) (fun hs_ => hs_.1.2.2.2)) (fun hn_ => (Kd.freshB (bA_ BK947.out) k_ hn_)), Or.elim hk_ (fun hs_ => Or.elim hs_ (fun hs_ => hs_.2) (fun hs_ => hs_.2)) (fun hn_ => (Kd.freshB (bA_ BK981.out) k_ hn_))⟩)) (below_size m_7))
           replace HO_948002 := vB_ HO_948002 hb
           replace HO956 := Aside0.mk (Kd.N_below m_14 hb)
           replace HO959 := rB_ HO959 hb
           replace HO967 := vB_ HO967 hb
           replace HO971 := vB_ HO971 hb
           replace BK947 := bB_ BK947 hb
           replace BK981 := bB_ BK981 hb
           replace HB := Aside0.mk (below_step m_7 hb)
           (try clear hb); (try clear hb2); (try clear hk); (try clear hi); (try clear ho0); (try clear ho1)
           refine nx_ ⟨(blk_cell BK947.out 0).trans rfl, (blk_cell BK947.out 1).trans rfl, (blk_cell BK947.out 2).trans rfl, (blk_cell BK947.out 3).trans rfl, (blk_cell BK947.out 4).trans rfl, (blk_cell BK947.out 5).trans rfl, (blk_cell BK947.out 6).trans rfl, (blk_cell BK947.out 7).trans rfl, (blk_cell BK947.out 8).trans rfl⟩ (fun hHeld => ?_)
           refine pA_ 5 HT_.out ?_
           refine pA_ 6 HT_.out ?_
           refine pA_ 7 HT_.out ?_
           exact norm_ m_129 (hCont (.slice Ao41 t965.length co41, .slice Ao42 t969.length co42, v974, v978, gb981) _ ⟨hHeld, m_94, m_116, m_123, m_122, (vA_ HO975.out), (vA_ HO979.out), m_79, (bA_ BK947.out), (bA_ BK981.out), GW981.out, GE981.out, NB947_981.out, NB981_947.out, m_7⟩)
         ·skip
          refine box_step ?hg (N := 7) ?hd (cs := #[.bool false, .slice none 0 0, .bool false, .slice none 0 0]) (t := 66) ?hr ?_; (case hd => rfl); (case hg => rfl); (case hr => exact hr_)
          intro gb981 hg w39 hbox hb
          have BK981 := Aside0.mk (hbox)
          have GW981 := gW_ (w := w) hg m_3
          have GE981 := gW_ (w := w) hg m_3
          have NB947_981 := nl_ BK947 hg
          have NB981_947 := ng_ BK947 hg
          replace HO_948002 := vE_ HO_948002 hg hb
          replace HO956 := Aside0.mk (Kd.N_below (Kd.N_elderB m_14 gb981 (Nat.le_of_eq hg.symm)) hb)
          replace HO959 := rB_ HO959 hb
          replace BK947 := bB_ BK947 hb
          replace HB := Aside0.mk (below_step m_3 hb)
          clear hb hbox hg
          refine hK.out _ _ ⟨(blk_cell BK947.out 0).trans rfl, (blk_cell BK947.out 1).trans rfl, (blk_cell BK947.out 2).trans rfl, (blk_cell BK947.out 3).trans rfl, (blk_cell BK947.out 4).trans rfl, (blk_cell BK947.out 5).trans rfl, (blk_cell BK947.out 6).trans rfl, (blk_cell BK947.out 7).trans rfl, (blk_cell BK947.out 8).trans rfl⟩ (fun hHeld => ?_)
          clear hK K
          refine norm_ (a' := ?_) ?_ ?_
          rotate_left
          ·show Act.put _ (some 7) _ = _
           simp only [Act.put, List.setIfInBounds_toArray, List.set_cons_zero, List.set_cons_succ, i64_w, i32_w]
           rfl
          refine cB_1 3 Try.func39 (args := #[.int .i64 a1]) ?_
          with_reducible refine (frac_FromInt64.calls a1 t964 t965 t968 t969 _ A22.out).mono ?_
          rintro e w40 ⟨v966, v970, rfl, ho0, ho1, hb⟩
          refine ⟨_, rfl, ?_⟩
          have HO967 := Aside0.mk (Kd.V_lower (Kd.V_mono (ok' := fun k_ => (P0_2_ k_ ∨ w.heap.size ≤ k_) ∧ some k_ ≠ (.slice Ao35 y954.length co35 : Value).ownBlock ∧ some k_ ≠ (.slice Ao36 y957.length co36 : Value).ownBlock ∧ k_ ≠ gb947 ∧ k_ ≠ gb981) ho0 (fun k_ hk_ => ⟨(.inr (Nat.le_trans (below_size m_7) hk_)), (Kd.fresh' (Kd.N_lt m_14) k_ hk_), (Kd.fresh' (Kd.R_lt (rA_ HO959.out)) k_ hk_), (Kd.freshB (bA_ BK947.out) k_ hk_), (Kd.freshB (bA_ BK981.out) k_ hk_)⟩)) (below_size m_7))
          have HO971 := Aside0.mk (Kd.V_lower (Kd.V_mono (ok' := fun k_ => (P0_2_ k_ ∨ w.heap.size ≤ k_) ∧ some k_ ≠ (.slice Ao35 y954.length co35 : Value).ownBlock ∧ some k_ ≠ (.slice Ao36 y957.length co36 : Value).ownBlock ∧ k_ ≠ gb947 ∧ k_ ≠ gb981) ho1 (fun k_ hk_ => ⟨(.inr (Nat.le_trans (below_size m_7) hk_)), (Kd.fresh' (Kd.N_lt m_14) k_ hk_), (Kd.fresh' (Kd.R_lt (rA_ HO959.out)) k_ hk_), (Kd.freshB (bA_ BK947.out) k_ hk_), (Kd.freshB (bA_ BK981.out) k_ hk_)⟩)) (below_size m_7))
          replace HO_948002 := vB_ HO_948002 hb
          replace HO956 := Aside0.mk (Kd.N_below m_14 hb)
          replace HO959 := rB_ HO959 hb
          replace BK947 := bB_ BK947 hb
          replace BK981 := bB_ BK981 hb
          replace HB := Aside0.mk (below_step m_7 hb)
          (try clear hb); (try clear hb2); (try clear hk); (try clear hi); (try clear ho0); (try clear ho1)
          obtain ⟨Ao41, co41, eo41⟩ := Kd.V_slice HO967.out
          (first | subst eo41 | (injection eo41 with f1_ f2_ f3_; have f4_ := f1_.symm; have f5_ := f3_.symm; clear f1_ f2_ f3_; subst f4_; subst f5_))
          obtain ⟨Ao42, co42, eo42⟩ := Kd.V_slice HO971.out
          (first | subst eo42 | (injection eo42 with f1_ f2_ f3_; have f4_ := f1_.symm; have f5_ := f3_.symm; clear f1_ f2_ f3_; subst f4_; subst f5_))
          refine nx_ ⟨(blk_cell BK947.out 0).trans rfl, (blk_cell BK947.out 1).trans rfl, (blk_cell BK947.out 2).trans rfl, (blk_cell BK947.out 3).trans rfl, (blk_cell BK947.out 4).trans rfl, (blk_cell BK947.out 5).trans rfl, (blk_cell BK947.out 6).trans rfl, (blk_cell BK947.out 7).trans rfl, (blk_cell BK947.out 8).trans rfl⟩ (fun hHeld => ?_)
          refine cB_1 4 Try.func38 (args := #[.slice A0_2 l0_2.length c0_2, .agg #[.bool t964, .slice Ao41 t965.length co41, .bool t968, .slice Ao42 t969.length co42]]) ?_
          with_reducible refine (step_Cost.calls kj2 _ _ l0_2 t964 (fun k_ => ((P0_2_ k_ ∨ w.heap.size ≤ k_) ∧ (some k_ ≠ (.slice Ao35 y954.length co35 : Value).ownBlock ∧ (some k_ ≠ (.slice Ao36 y957.length co36 : Value).ownBlock ∧ (k_ ≠ gb947 ∧ k_ ≠ gb981))))) _ _ t965 t968 (fun k_ => ((P0_2_ k_ ∨ w.heap.size ≤ k_) ∧ (some k_ ≠ (.slice Ao35 y954.length co35 : Value).ownBlock ∧ (some k_ ≠ (.slice Ao36 y957.length co36 : Value).ownBlock ∧ (k_ ≠ gb947 ∧ k_ ≠ gb981))))) _ _ t969 t972 t973 t976 t977 t980 _ ?side1 ?side2 ?side3 ?side4 A23.out).mono ?_
          (case side1 => exact cA_ (Kd.V_reads' HO_948002.out).2.2)
          (case side2 => exact (Kd.V_reads' HO_948002.out).2.1)
          (case side3 => exact HO967.out)
          (case side4 => exact HO971.out)
          rintro e w43 ⟨v974, v978, rfl, ho0, ho1, hb⟩
          refine ⟨_, rfl, ?_⟩
          have HO975 := Aside0.mk (Kd.V_lower (Kd.V_mono (ok' := fun k_ => (P0_2_ k_ ∨ w.heap.size ≤ k_) ∧ some k_ ≠ (.slice Ao35 y954.length co35 : Value).ownBlock ∧ some k_ ≠ (.slice Ao36 y957.length co36 : Value).ownBlock ∧ k_ ≠ gb947 ∧ k_ ≠ gb981) ho0 (fun k_ hk_ => ⟨Or.elim hk_ (fun hs_ => Or.elim hs_ (fun hs_ => hs_.1) (fun hs_ => hs_.1)) (fun hn_ => (.inr (Nat.le_trans (below_size m_7) hn_))), Or.elim hk_ (fun hs_ => Or.elim hs_ (fun hs_ => hs_.2.1) (fun hs_ => hs_.2.1)) (fun hn_ => (Kd.fresh' (Kd.N_lt m_14) k_ hn_)), Or.elim hk_ (fun hs_ => Or.elim hs_ (fun hs_ => hs_.2.2.1) (fun hs_ => hs_.2.2.1)) (fun hn_ => (Kd.fresh' (Kd.R_lt (rA_ HO959.out)) k_ hn_)), Or.elim hk_ (fun hs_ => Or.elim hs_ (fun hs_ => hs_.2.2.2.1) (fun hs_ => hs_.2.2.2.1)) (fun hn_ => (Kd.freshB (bA_ BK947.out) k_ hn_)), Or.elim hk_ (fun hs_ => Or.elim hs_ (fun hs_ => hs_.2.2.2.2) (fun hs_ => hs_.2.2.2.2)) (fun hn_ => (Kd.freshB (bA_ BK981.out) k_ hn_))⟩)) (below_size m_7))
          have HO979 := Aside0.mk (Kd.V_lower (Kd.V_mono (ok' := fun k_ => (P0_2_ k_ ∨ w.heap.size ≤ k_) ∧ some k_ ≠ (.slice Ao35 y954.length co35 : Value).ownBlock ∧ some k_ ≠ (.slice Ao36 y957.length co36 : Value).ownBlock ∧ k_ ≠ gb947 ∧ k_ ≠ gb981) ho1 (fun k_ hk_ => ⟨Or.elim hk_ (fun hs_ => Or.elim hs_ (fun hs_ => hs_.1) (fun hs_ => hs_.1)) (fun hn_ => (.inr (Nat.le_trans (below_size m_7) hn_))), Or.elim hk_ (fun hs_ => Or.elim hs_ (fun hs_ => hs_.2.1) (fun hs_ => hs_.2.1)) (fun hn_ => (Kd.fresh' (Kd.N_lt m_14) k_ hn_)), Or.elim hk_ (fun hs_ => Or.elim hs_ (fun hs_ => hs_.2.2.1) (fun hs_ => hs_.2.2.1)) (fun hn_ => (Kd.fresh' (Kd.R_lt (rA_ HO959.out)) k_ hn_)), Or.elim hk_ (fun hs_ => Or.elim hs_ (fun hs_ => hs_.2.2.2.1) (fun hs_ => hs_.2.2.2.1)) (fun hn_ => (Kd.freshB (bA_ BK947.out) k_ hn_)), Or.elim hk_ (fun hs_ => Or.elim hs_ (fun hs_ => hs_.2.2.2.2) (fun hs_ => hs_.2.2.2.2)) (fun hn_ => (Kd.freshB (bA_ BK981.out) k_ hn_))⟩)) (below_size m_7))
          replace HO_948002 := vB_ HO_948002 hb
          replace HO956 := Aside0.mk (Kd.N_below m_14 hb)
          replace HO959 := rB_ HO959 hb
          replace HO967 := vB_ HO967 hb
          replace HO971 := vB_ HO971 hb
          replace BK947 := bB_ BK947 hb
          replace BK981 := bB_ BK981 hb
          replace HB := Aside0.mk (below_step m_7 hb)
          (try clear hb); (try clear hb2); (try clear hk); (try clear hi); (try clear ho0); (try clear ho1)
          refine nx_ ⟨(blk_cell BK947.out 0).trans rfl, (blk_cell BK947.out 1).trans rfl, (blk_cell BK947.out 2).trans rfl, (blk_cell BK947.out 3).trans rfl, (blk_cell BK947.out 4).trans rfl, (blk_cell BK947.out 5).trans rfl, (blk_cell BK947.out 6).trans rfl, (blk_cell BK947.out 7).trans rfl, (blk_cell BK947.out 8).trans rfl⟩ (fun hHeld => ?_)
          refine pA_ 5 HT_.out ?_
          refine pA_ 6 HT_.out ?_
          refine pA_ 7 HT_.out ?_
          exact norm_ m_129 (hCont (.slice Ao41 t965.length co41, .slice Ao42 t969.length co42, v974, v978, gb981) _ ⟨hHeld, m_94, m_116, (vA_ HO967.out), (vA_ HO971.out), (vA_ HO975.out), (vA_ HO979.out), m_79, (bA_ BK947.out), (bA_ BK981.out), GW981.out, GE981.out, NB947_981.out, NB981_947.out, m_7⟩)
        rintro ⟨v966, v970, v974, v978, gb981⟩ w44 ⟨hS_, h0_, h1_, h2_, h3_, h4_, h5_, h6_, h7_, h8_, h9_, h10_, h11_, h12_, h13_⟩
        have HO967 : Aside0 (Kd.V (Kd.int .u32) 117 w44 w.heap.size (fun k_ => (P0_2_ k_ ∨ w.heap.size ≤ k_) ∧ some k_ ≠ (.slice Ao35 y954.length co35 : Value).ownBlock ∧ some k_ ≠ (.slice Ao36 y957.length co36 : Value).ownBlock ∧ k_ ≠ gb947 ∧ k_ ≠ gb981) v966 t965) := ⟨h2_⟩
        have HO971 : Aside0 (Kd.V (Kd.int .u32) 117 w44 w.heap.size (fun k_ => (P0_2_ k_ ∨ w.heap.size ≤ k_) ∧ some k_ ≠ (.slice Ao35 y954.length co35 : Value).ownBlock ∧ some k_ ≠ (.slice Ao36 y957.length co36 : Value).ownBlock ∧ k_ ≠ gb947 ∧ k_ ≠ gb981) v970 t969) := ⟨h3_⟩
        have HO975 : Aside0 (Kd.V (Kd.int .u32) 117 w44 w.heap.size (fun k_ => (P0_2_ k_ ∨ w.heap.size ≤ k_) ∧ some k_ ≠ (.slice Ao35 y954.length co35 : Value).ownBlock ∧ some k_ ≠ (.slice Ao36 y957.length co36 : Value).ownBlock ∧ k_ ≠ gb947 ∧ k_ ≠ gb981) v974 t973) := ⟨h4_⟩
        have HO979 : Aside0 (Kd.V (Kd.int .u32) 117 w44 w.heap.size (fun k_ => (P0_2_ k_ ∨ w.heap.size ≤ k_) ∧ some k_ ≠ (.slice Ao35 y954.length co35 : Value).ownBlock ∧ some k_ ≠ (.slice Ao36 y957.length co36 : Value).ownBlock ∧ k_ ≠ gb947 ∧ k_ ≠ gb981) v978 t977) := ⟨h5_⟩
        have BK981 : Aside0 (w44.heap[gb981]? = some (.cells #[.bool false, .slice none 0 0, .bool false, .slice none 0 0] 66 (0, 0))) := ⟨h8_⟩
        have GW981 : Aside0 (w.heap.size ≤ gb981) := ⟨h9_⟩
        have GE981 : Aside0 (w.heap.size ≤ gb981) := ⟨h10_⟩
        have NB947_981 : Aside0 (gb947 ≠ gb981) := ⟨h11_⟩
        have NB981_947 : Aside0 (gb981 ≠ gb947) := ⟨h12_⟩
        replace HO956 : Aside0 (Kd.N k24 24 w44 w.heap.size (fun k_ => (P0_2_ k_ ∨ w.heap.size ≤ k_) ∧ some k_ ≠ (.slice Ao36 y957.length co36 : Value).ownBlock ∧ k_ ≠ gb947 ∧ k_ ≠ gb981) (.slice Ao35 y954.length co35) y954) := ⟨h0_⟩
        replace HO959 : Aside0 (Kd.R Kd.bool 4 w44 w.heap.size (fun k_ => (w.heap.size ≤ k_)) (.slice Ao36 y957.length co36) y957) := ⟨h1_⟩
        replace HO_948002 : Aside0 (Kd.V k99 99 w44 w.heap.size (fun k_ => (P0_2_ k_ ∨ w.heap.size ≤ k_) ∧ some k_ ≠ (.slice Ao35 y954.length co35 : Value).ownBlock ∧ some k_ ≠ (.slice Ao36 y957.length co36 : Value).ownBlock ∧ k_ ≠ gb947 ∧ k_ ≠ gb981) (.slice A0_2 l0_2.length c0_2) l0_2) := ⟨h6_⟩
        replace BK947 : Aside0 (w44.heap[gb947]? = some (.cells #[.int .i64 a0_0, .int .i64 a0_1, .slice A0_2 l0_2.length c0_2, .int .i64 a0_3, .int .i64 a0_4, .int .i64 a0_5, .int .i64 a0_6, .int .i64 a0_7, .int .i64 a0_8] 24 (0, 0))) := ⟨h7_⟩
        replace HB : Aside0 (Below w.heap.size w w44) := ⟨h13_⟩
        clear h0_ h10_ h11_ h12_ h13_ h1_ h2_ h3_ h4_ h5_ h6_ h7_ h8_ h9_
        have hHeld : w44.cell? ⟨gb947, 0, none⟩ = some (.int .i64 a0_0) ∧ w44.cell? ⟨gb947, 1, none⟩ = some (.int .i64 a0_1) ∧ w44.cell? ⟨gb947, 2, none⟩ = some (.slice A0_2 l0_2.length c0_2) ∧ w44.cell? ⟨gb947, 3, none⟩ = some (.int .i64 a0_3) ∧ w44.cell? ⟨gb947, 4, none⟩ = some (.int .i64 a0_4) ∧ w44.cell? ⟨gb947, 5, none⟩ = some (.int .i64 a0_5) ∧ w44.cell? ⟨gb947, 6, none⟩ = some (.int .i64 a0_6) ∧ w44.cell? ⟨gb947, 7, none⟩ = some (.int .i64 a0_7) ∧ w44.cell? ⟨gb947, 8, none⟩ = some (.int .i64 a0_8) := hS_
        obtain ⟨Ao46, co46, eo46⟩ := Kd.V_slice HO975.out
        (first | subst eo46 | (injection eo46 with f1_ f2_ f3_; have f4_ := f1_.symm; have f5_ := f3_.symm; clear f1_ f2_ f3_; subst f4_; subst f5_))
        obtain ⟨Ao49, co49, eo49⟩ := Kd.V_slice HO979.out
        (first | subst eo49 | (injection eo49 with f1_ f2_ f3_; have f4_ := f1_.symm; have f5_ := f3_.symm; clear f1_ f2_ f3_; subst f4_; subst f5_))
        refine norm_ (a' := ?_) ?_ ?_
        rotate_left
        ·simp only [putAll, Act.put, List.setIfInBounds_toArray, List.set_cons_zero, List.set_cons_succ]
         rfl
        refine one_ (i := 9) (N := none) #[true, true, true, true, true, true, true, true, true, true, false] rfl rfl (one_of HT_.out m_13) (by decide) (fun K hK => ?_)
        have hs45 : w44.cell? ⟨gb981, 0, none⟩ = some (.bool false) := (blk_cell BK981.out 0).trans rfl
        have hfs45 := blk_frozen BK981.out 0
        have hns45_0 := NB947_981.out
        have hms45_0 := NB981_947.out
        have hs47 : w44.cell? ⟨gb981, 1, none⟩ = some (.slice none 0 0) := (blk_cell BK981.out 1).trans rfl
        have hfs47 := blk_frozen BK981.out 1
        have hns47_0 := NB947_981.out
        have hms47_0 := NB981_947.out
        have hs48 : w44.cell? ⟨gb981, 2, none⟩ = some (.bool false) := (blk_cell BK981.out 2).trans rfl
        have hfs48 := blk_frozen BK981.out 2
        have hns48_0 := NB947_981.out
        have hms48_0 := NB981_947.out
        have hs50 : w44.cell? ⟨gb981, 3, none⟩ = some (.slice none 0 0) := (blk_cell BK981.out 3).trans rfl
        have hfs50 := blk_frozen BK981.out 3
        have hns50_0 := NB947_981.out
        have hms50_0 := NB981_947.out
        refine skip_ (w1 := ?_) (by rfl) rfl ?_ ?_
        rotate_left
        ·go_simp
         rfl
        refine hK.out _ _ ⟨((cell_far (p := ⟨gb981, _, none⟩) NB947_981.out _).trans (((cell_far (p := ⟨gb981, _, none⟩) NB947_981.out _).trans (((cell_far (p := ⟨gb981, _, none⟩) NB947_981.out _).trans (((cell_far (p := ⟨gb981, _, none⟩) NB947_981.out _).trans (hHeld.1)))))))), ((cell_far (p := ⟨gb981, _, none⟩) NB947_981.out _).trans (((cell_far (p := ⟨gb981, _, none⟩) NB947_981.out _).trans (((cell_far (p := ⟨gb981, _, none⟩) NB947_981.out _).trans (((cell_far (p := ⟨gb981, _, none⟩) NB947_981.out _).trans (hHeld.2.1)))))))), ((cell_far (p := ⟨gb981, _, none⟩) NB947_981.out _).trans (((cell_far (p := ⟨gb981, _, none⟩) NB947_981.out _).trans (((cell_far (p := ⟨gb981, _, none⟩) NB947_981.out _).trans (((cell_far (p := ⟨gb981, _, none⟩) NB947_981.out _).trans (hHeld.2.2.1)))))))), ((cell_far (p := ⟨gb981, _, none⟩) NB947_981.out _).trans (((cell_far (p := ⟨gb981, _, none⟩) NB947_981.out _).trans (((cell_far (p := ⟨gb981, _, none⟩) NB947_981.out _).trans (((cell_far (p := ⟨gb981, _, none⟩) NB947_981.out _).trans (hHeld.2.2.2.1)))))))), ((cell_far (p := ⟨gb981, _, none⟩) NB947_981.out _).trans (((cell_far (p := ⟨gb981, _, none⟩) NB947_981.out _).trans (((cell_far (p := ⟨gb981, _, none⟩) NB947_981.out _).trans (((cell_far (p := ⟨gb981, _, none⟩) NB947_981.out _).trans (hHeld.2.2.2.2.1)))))))), ((cell_far (p := ⟨gb981, _, none⟩) NB947_981.out _).trans (((cell_far (p := ⟨gb981, _, none⟩) NB947_981.out _).trans (((cell_far (p := ⟨gb981, _, none⟩) NB947_981.out _).trans (((cell_far (p := ⟨gb981, _, none⟩) NB947_981.out _).trans (hHeld.2.2.2.2.2.1)))))))), ((cell_far (p := ⟨gb981, _, none⟩) NB947_981.out _).trans (((cell_far (p := ⟨gb981, _, none⟩) NB947_981.out _).trans (((cell_far (p := ⟨gb981, _, none⟩) NB947_981.out _).trans (((cell_far (p := ⟨gb981, _, none⟩) NB947_981.out _).trans (hHeld.2.2.2.2.2.2.1)))))))), ((cell_far (p := ⟨gb981, _, none⟩) NB947_981.out _).trans (((cell_far (p := ⟨gb981, _, none⟩) NB947_981.out _).trans (((cell_far (p := ⟨gb981, _, none⟩) NB947_981.out _).trans (((cell_far (p := ⟨gb981, _, none⟩) NB947_981.out _).trans (hHeld.2.2.2.2.2.2.2.1)))))))), ((cell_far (p := ⟨gb981, _, none⟩) NB947_981.out _).trans (((cell_far (p := ⟨gb981, _, none⟩) NB947_981.out _).trans (((cell_far (p := ⟨gb981, _, none⟩) NB947_981.out _).trans (((cell_far (p := ⟨gb981, _, none⟩) NB947_981.out _).trans (hHeld.2.2.2.2.2.2.2.2))))))))⟩ (fun hHeld => ?_)
        clear hK K
        refine pA_ 10 HT_.out ?_
        refine done_ (done_of HT_.out m_13) ?_
        try go_wp2
        have n0_ : Aside0 (Kd.V k99 99 ((((w44.setCell ⟨gb981, 0, none⟩ (.bool t972)).setCell ⟨gb981, 1, none⟩ (.slice Ao46 t973.length co46)).setCell ⟨gb981, 2, none⟩ (.bool t976)).setCell ⟨gb981, 3, none⟩ (.slice Ao49 t977.length co49)) w.heap.size (fun k_ => (P0_2_ k_ ∨ w.heap.size ≤ k_) ∧ some k_ ≠ (.slice Ao35 y954.length co35 : Value).ownBlock ∧ some k_ ≠ (.slice Ao36 y957.length co36 : Value).ownBlock ∧ k_ ≠ gb947 ∧ k_ ≠ gb981) (.slice A0_2 l0_2.length c0_2) l0_2) := ⟨(by (with_reducible repeat (first | apply Kd.V_alloc | apply Kd.V_drewN | apply Kd.V_drew)); exact Kd.V_mono (Kd.V_far (p := ⟨gb981, 3, none⟩) (Kd.V_far (p := ⟨gb981, 2, none⟩) (Kd.V_far (p := ⟨gb981, 1, none⟩) (Kd.V_far (p := ⟨gb981, 0, none⟩) (Kd.V_mono HO_948002.out (fun k_ hk => (⟨hk, hk.2.2.2.2⟩ : _ ∧ k_ ≠ gb981))) (fun _ hk => hk.2) (.bool t972)) (fun _ hk => hk.2) (.slice Ao46 t973.length co46)) (fun _ hk => hk.2) (.bool t976)) (fun _ hk => hk.2) (.slice Ao49 t977.length co49)) (fun _ hk => ⟨hk.1.1, ⟨hk.1.2.1, ⟨hk.1.2.2.1, ⟨hk.1.2.2.2.1, hk.1.2.2.2.2⟩⟩⟩⟩))⟩
        have n1_ : Aside0 (Kd.N k24 24 ((((w44.setCell ⟨gb981, 0, none⟩ (.bool t972)).setCell ⟨gb981, 1, none⟩ (.slice Ao46 t973.length co46)).setCell ⟨gb981, 2, none⟩ (.bool t976)).setCell ⟨gb981, 3, none⟩ (.slice Ao49 t977.length co49)) w.heap.size (fun k_ => (P0_2_ k_ ∨ w.heap.size ≤ k_) ∧ some k_ ≠ (.slice Ao36 y957.length co36 : Value).ownBlock ∧ k_ ≠ gb947 ∧ k_ ≠ gb981) (.slice Ao35 y954.length co35) y954) := ⟨(by (with_reducible repeat (first | apply Kd.N_alloc | apply Kd.N_drewN | apply Kd.N_drew)); exact Kd.N_mono (Kd.N_far (p := ⟨gb981, 3, none⟩) (Kd.N_far (p := ⟨gb981, 2, none⟩) (Kd.N_far (p := ⟨gb981, 1, none⟩) (Kd.N_far (p := ⟨gb981, 0, none⟩) (Kd.N_mono HO956.out (fun k_ hk => (⟨hk, hk.2.2.2⟩ : _ ∧ k_ ≠ gb981))) (fun _ hk => hk.2) (.bool t972)) (fun _ hk => hk.2) (.slice Ao46 t973.length co46)) (fun _ hk => hk.2) (.bool t976)) (fun _ hk => hk.2) (.slice Ao49 t977.length co49)) (fun _ hk => ⟨hk.1.1, ⟨hk.1.2.1, ⟨hk.1.2.2.1, hk.1.2.2.2⟩⟩⟩))⟩
        have n2_ : Aside0 (Kd.R Kd.bool 4 ((((w44.setCell ⟨gb981, 0, none⟩ (.bool t972)).setCell ⟨gb981, 1, none⟩ (.slice Ao46 t973.length co46)).setCell ⟨gb981, 2, none⟩ (.bool t976)).setCell ⟨gb981, 3, none⟩ (.slice Ao49 t977.length co49)) w.heap.size (fun k_ => (w.heap.size ≤ k_)) (.slice Ao36 y957.length co36) y957) := ⟨(by (with_reducible repeat (first | apply Kd.R_alloc | apply Kd.R_drewN | apply Kd.R_drew)); exact Kd.R_mono (Kd.R_far (p := ⟨gb981, 3, none⟩) (Kd.R_far (p := ⟨gb981, 2, none⟩) (Kd.R_far (p := ⟨gb981, 1, none⟩) (Kd.R_far (p := ⟨gb981, 0, none⟩) (Kd.R_types HO959.out BK981.out (by decide)) (fun _ hk => hk.2) (.bool t972)) (fun _ hk => hk.2) (.slice Ao46 t973.length co46)) (fun _ hk => hk.2) (.bool t976)) (fun _ hk => hk.2) (.slice Ao49 t977.length co49)) (fun _ hk => hk.1))⟩
        have n3_ : Aside0 (Kd.V (Kd.int .u32) 117 ((((w44.setCell ⟨gb981, 0, none⟩ (.bool t972)).setCell ⟨gb981, 1, none⟩ (.slice Ao46 t973.length co46)).setCell ⟨gb981, 2, none⟩ (.bool t976)).setCell ⟨gb981, 3, none⟩ (.slice Ao49 t977.length co49)) w.heap.size (fun k_ => (P0_2_ k_ ∨ w.heap.size ≤ k_) ∧ some k_ ≠ (.slice Ao35 y954.length co35 : Value).ownBlock ∧ some k_ ≠ (.slice Ao36 y957.length co36 : Value).ownBlock ∧ k_ ≠ gb947 ∧ k_ ≠ gb981) v966 t965) := ⟨(by (with_reducible repeat (first | apply Kd.V_alloc | apply Kd.V_drewN | apply Kd.V_drew)); exact Kd.V_mono (Kd.V_far (p := ⟨gb981, 3, none⟩) (Kd.V_far (p := ⟨gb981, 2, none⟩) (Kd.V_far (p := ⟨gb981, 1, none⟩) (Kd.V_far (p := ⟨gb981, 0, none⟩) (Kd.V_mono HO967.out (fun k_ hk => (⟨hk, hk.2.2.2.2⟩ : _ ∧ k_ ≠ gb981))) (fun _ hk => hk.2) (.bool t972)) (fun _ hk => hk.2) (.slice Ao46 t973.length co46)) (fun _ hk => hk.2) (.bool t976)) (fun _ hk => hk.2) (.slice Ao49 t977.length co49)) (fun _ hk => ⟨hk.1.1, ⟨hk.1.2.1, ⟨hk.1.2.2.1, ⟨hk.1.2.2.2.1, hk.1.2.2.2.2⟩⟩⟩⟩))⟩
        have n4_ : Aside0 (Kd.V (Kd.int .u32) 117 ((((w44.setCell ⟨gb981, 0, none⟩ (.bool t972)).setCell ⟨gb981, 1, none⟩ (.slice Ao46 t973.length co46)).setCell ⟨gb981, 2, none⟩ (.bool t976)).setCell ⟨gb981, 3, none⟩ (.slice Ao49 t977.length co49)) w.heap.size (fun k_ => (P0_2_ k_ ∨ w.heap.size ≤ k_) ∧ some k_ ≠ (.slice Ao35 y954.length co35 : Value).ownBlock ∧ some k_ ≠ (.slice Ao36 y957.length co36 : Value).ownBlock ∧ k_ ≠ gb947 ∧ k_ ≠ gb981) v970 t969) := ⟨(by (with_reducible repeat (first | apply Kd.V_alloc | apply Kd.V_drewN | apply Kd.V_drew)); exact Kd.V_mono (Kd.V_far (p := ⟨gb981, 3, none⟩) (Kd.V_far (p := ⟨gb981, 2, none⟩) (Kd.V_far (p := ⟨gb981, 1, none⟩) (Kd.V_far (p := ⟨gb981, 0, none⟩) (Kd.V_mono HO971.out (fun k_ hk => (⟨hk, hk.2.2.2.2⟩ : _ ∧ k_ ≠ gb981))) (fun _ hk => hk.2) (.bool t972)) (fun _ hk => hk.2) (.slice Ao46 t973.length co46)) (fun _ hk => hk.2) (.bool t976)) (fun _ hk => hk.2) (.slice Ao49 t977.length co49)) (fun _ hk => ⟨hk.1.1, ⟨hk.1.2.1, ⟨hk.1.2.2.1, ⟨hk.1.2.2.2.1, hk.1.2.2.2.2⟩⟩⟩⟩))⟩
        have n5_ : Aside0 (Kd.V (Kd.int .u32) 117 ((((w44.setCell ⟨gb981, 0, none⟩ (.bool t972)).setCell ⟨gb981, 1, none⟩ (.slice Ao46 t973.length co46)).setCell ⟨gb981, 2, none⟩ (.bool t976)).setCell ⟨gb981, 3, none⟩ (.slice Ao49 t977.length co49)) w.heap.size (fun k_ => (P0_2_ k_ ∨ w.heap.size ≤ k_) ∧ some k_ ≠ (.slice Ao35 y954.length co35 : Value).ownBlock ∧ some k_ ≠ (.slice Ao36 y957.length co36 : Value).ownBlock ∧ k_ ≠ gb947 ∧ k_ ≠ gb981) (.slice Ao46 t973.length co46) t973) := ⟨(by (with_reducible repeat (first | apply Kd.V_alloc | apply Kd.V_drewN | apply Kd.V_drew)); exact Kd.V_mono (Kd.V_far (p := ⟨gb981, 3, none⟩) (Kd.V_far (p := ⟨gb981, 2, none⟩) (Kd.V_far (p := ⟨gb981, 1, none⟩) (Kd.V_far (p := ⟨gb981, 0, none⟩) (Kd.V_mono HO975.out (fun k_ hk => (⟨hk, hk.2.2.2.2⟩ : _ ∧ k_ ≠ gb981))) (fun _ hk => hk.2) (.bool t972)) (fun _ hk => hk.2) (.slice Ao46 t973.length co46)) (fun _ hk => hk.2) (.bool t976)) (fun _ hk => hk.2) (.slice Ao49 t977.length co49)) (fun _ hk => ⟨hk.1.1, ⟨hk.1.2.1, ⟨hk.1.2.2.1, ⟨hk.1.2.2.2.1, hk.1.2.2.2.2⟩⟩⟩⟩))⟩
        have n6_ : Aside0 (Kd.V (Kd.int .u32) 117 ((((w44.setCell ⟨gb981, 0, none⟩ (.bool t972)).setCell ⟨gb981, 1, none⟩ (.slice Ao46 t973.length co46)).setCell ⟨gb981, 2, none⟩ (.bool t976)).setCell ⟨gb981, 3, none⟩ (.slice Ao49 t977.length co49)) w.heap.size (fun k_ => (P0_2_ k_ ∨ w.heap.size ≤ k_) ∧ some k_ ≠ (.slice Ao35 y954.length co35 : Value).ownBlock ∧ some k_ ≠ (.slice Ao36 y957.length co36 : Value).ownBlock ∧ k_ ≠ gb947 ∧ k_ ≠ gb981) (.slice Ao49 t977.length co49) t977) := ⟨(by (with_reducible repeat (first | apply Kd.V_alloc | apply Kd.V_drewN | apply Kd.V_drew)); exact Kd.V_mono (Kd.V_far (p := ⟨gb981, 3, none⟩) (Kd.V_far (p := ⟨gb981, 2, none⟩) (Kd.V_far (p := ⟨gb981, 1, none⟩) (Kd.V_far (p := ⟨gb981, 0, none⟩) (Kd.V_mono HO979.out (fun k_ hk => (⟨hk, hk.2.2.2.2⟩ : _ ∧ k_ ≠ gb981))) (fun _ hk => hk.2) (.bool t972)) (fun _ hk => hk.2) (.slice Ao46 t973.length co46)) (fun _ hk => hk.2) (.bool t976)) (fun _ hk => hk.2) (.slice Ao49 t977.length co49)) (fun _ hk => ⟨hk.1.1, ⟨hk.1.2.1, ⟨hk.1.2.2.1, ⟨hk.1.2.2.2.1, hk.1.2.2.2.2⟩⟩⟩⟩))⟩
        have n7_ : Aside0 (((((w44.setCell ⟨gb981, 0, none⟩ (.bool t972)).setCell ⟨gb981, 1, none⟩ (.slice Ao46 t973.length co46)).setCell ⟨gb981, 2, none⟩ (.bool t976)).setCell ⟨gb981, 3, none⟩ (.slice Ao49 t977.length co49)).heap[gb947]? = some (.cells #[.int .i64 a0_0, .int .i64 a0_1, .slice A0_2 l0_2.length c0_2, .int .i64 a0_3, .int .i64 a0_4, .int .i64 a0_5, .int .i64 a0_6, .int .i64 a0_7, .int .i64 a0_8] 24 (0, 0))) := ⟨(by (with_reducible repeat (first | refine blk_drewN ?_ _ | refine blk_drew ?_ | refine blk_alloc ?_ _)); refine blk_far ?_ NB947_981.out _; (with_reducible repeat (first | refine blk_drewN ?_ _ | refine blk_drew ?_ | refine blk_alloc ?_ _)); refine blk_far ?_ NB947_981.out _; (with_reducible repeat (first | refine blk_drewN ?_ _ | refine blk_drew ?_ | refine blk_alloc ?_ _)); refine blk_far ?_ NB947_981.out _; (with_reducible repeat (first | refine blk_drewN ?_ _ | refine blk_drew ?_ | refine blk_alloc ?_ _)); refine blk_far ?_ NB947_981.out _; (with_reducible repeat (first | refine blk_drewN ?_ _ | refine blk_drew ?_ | refine blk_alloc ?_ _)); exact BK947.out)⟩
        have n8_ : Aside0 (((((w44.setCell ⟨gb981, 0, none⟩ (.bool t972)).setCell ⟨gb981, 1, none⟩ (.slice Ao46 t973.length co46)).setCell ⟨gb981, 2, none⟩ (.bool t976)).setCell ⟨gb981, 3, none⟩ (.slice Ao49 t977.length co49)).heap[gb981]? = some (.cells #[.bool t972, .slice Ao46 t973.length co46, .bool t976, .slice Ao49 t977.length co49] 66 (0, 0))) := ⟨(by (with_reducible repeat (first | refine blk_drewN ?_ _ | refine blk_drew ?_ | refine blk_alloc ?_ _)); refine blk_put (cs := #[.bool t972, .slice Ao46 t973.length co46, .bool t976, .slice none 0 0]) ?_ 3 _ rfl; (with_reducible repeat (first | refine blk_drewN ?_ _ | refine blk_drew ?_ | refine blk_alloc ?_ _)); refine blk_put (cs := #[.bool t972, .slice Ao46 t973.length co46, .bool false, .slice none 0 0]) ?_ 2 _ rfl; (with_reducible repeat (first | refine blk_drewN ?_ _ | refine blk_drew ?_ | refine blk_alloc ?_ _)); refine blk_put (cs := #[.bool t972, .slice none 0 0, .bool false, .slice none 0 0]) ?_ 1 _ rfl; (with_reducible repeat (first | refine blk_drewN ?_ _ | refine blk_drew ?_ | refine blk_alloc ?_ _)); refine blk_put (cs := #[.bool false, .slice none 0 0, .bool false, .slice none 0 0]) ?_ 0 _ rfl; (with_reducible repeat (first | refine blk_drewN ?_ _ | refine blk_drew ?_ | refine blk_alloc ?_ _)); exact BK981.out)⟩
        have n9_ : Aside0 (Below w.heap.size w ((((w44.setCell ⟨gb981, 0, none⟩ (.bool t972)).setCell ⟨gb981, 1, none⟩ (.slice Ao46 t973.length co46)).setCell ⟨gb981, 2, none⟩ (.bool t976)).setCell ⟨gb981, 3, none⟩ (.slice Ao49 t977.length co49))) := ⟨m_7⟩
        (try clear HO_948002); (try clear HO956); (try clear HO959); (try clear HO967); (try clear HO971); (try clear HO975); (try clear HO979); (try clear BK947); (try clear BK981); (try clear HB)
        generalize ((((w44.setCell ⟨gb981, 0, none⟩ (.bool t972)).setCell ⟨gb981, 1, none⟩ (.slice Ao46 t973.length co46)).setCell ⟨gb981, 2, none⟩ (.bool t976)).setCell ⟨gb981, 3, none⟩ (.slice Ao49 t977.length co49)) = w51 at n0_ n1_ n2_ n3_ n4_ n5_ n6_ n7_ n8_ n9_ ⊢
        have HO_948002 := n0_
        have HO956 := n1_
        have HO959 := n2_
        have HO967 := n3_
        have HO971 := n4_
        have HO975 := n5_
        have HO979 := n6_
        have BK947 := n7_
        have BK981 := n8_
        have HB := n9_
        clear n0_ n1_ n2_ n3_ n4_ n5_ n6_ n7_ n8_ n9_
        replace HO_948002 := vD_ HO_948002
        replace HO956 := Aside0.mk (Kd.N_drew HO956.out)
        replace HO959 := Aside0.mk (Kd.R_drew HO959.out)
        replace HO967 := vD_ HO967
        replace HO971 := vD_ HO971
        replace HO975 := vD_ HO975
        replace HO979 := vD_ HO979
        replace BK947 := bD_ BK947
        replace BK981 := bD_ BK981
        replace HB := Aside0.mk (below_drew1 HB.out)
        refine start_ (n := 21) (S := fun w' => w'.cell? ⟨gb981, 0, none⟩ = some (.bool t972) ∧ w'.cell? ⟨gb981, 1, none⟩ = some (.slice Ao46 t973.length co46) ∧ w'.cell? ⟨gb981, 2, none⟩ = some (.bool t976) ∧ w'.cell? ⟨gb981, 3, none⟩ = some (.slice Ao49 t977.length co49) ∧ w'.cell? ⟨gb947, 0, none⟩ = some (.int .i64 a0_0) ∧ w'.cell? ⟨gb947, 1, none⟩ = some (.int .i64 a0_1) ∧ w'.cell? ⟨gb947, 2, none⟩ = some (.slice A0_2 l0_2.length c0_2) ∧ w'.cell? ⟨gb947, 3, none⟩ = some (.int .i64 a0_3) ∧ w'.cell? ⟨gb947, 4, none⟩ = some (.int .i64 a0_4) ∧ w'.cell? ⟨gb947, 5, none⟩ = some (.int .i64 a0_5) ∧ w'.cell? ⟨gb947, 6, none⟩ = some (.int .i64 a0_6) ∧ w'.cell? ⟨gb947, 7, none⟩ = some (.int .i64 a0_7) ∧ w'.cell? ⟨gb947, 8, none⟩ = some (.int .i64 a0_8)) (ds := []) #[false, false, false, false, false, false, false, false, false, false, false, false, false, false, false, false, false, false, false, false, false] m_13 rfl rfl ⟨(blk_cell BK981.out 0).trans rfl, (blk_cell BK981.out 1).trans rfl, (blk_cell BK981.out 2).trans rfl, (blk_cell BK981.out 3).trans rfl, (blk_cell BK947.out 0).trans rfl, (blk_cell BK947.out 1).trans rfl, (blk_cell BK947.out 2).trans rfl, (blk_cell BK947.out 3).trans rfl, (blk_cell BK947.out 4).trans rfl, (blk_cell BK947.out 5).trans rfl, (blk_cell BK947.out 6).trans rfl, (blk_cell BK947.out 7).trans rfl, (blk_cell BK947.out 8).trans rfl⟩ (fun hHeld => ?_); refine with_tabW pylonlaw28_EnergySingleUnit.tab7 pylonlaw28_EnergySingleUnit.bits7 (fun HT_ HW_ => ?_)
        generalize w51.drew = w52 at HO_948002 HO956 HO959 HO967 HO971 HO975 HO979 BK947 BK981 HB hHeld ⊢
        refine pA_ 0 HT_.out ?_
        refine pA_ 1 HT_.out ?_
        refine pA_ 2 HT_.out ?_
        refine pA_ 4 HT_.out ?_
        refine tA_ 3 HT_.out HW_.out hHeld ?_
        refine cB_1 5 Try.func39 (args := #[.int .i64 t960]) ?_
        with_reducible refine (frac_FromInt64.calls t960 t982 t983 t986 t987 _ A25.out).mono ?_
        rintro e w53 ⟨v984, v988, rfl, ho0, ho1, hb⟩
        refine ⟨_, rfl, ?_⟩
        have HO985 := Aside0.mk (Kd.V_lower (Kd.V_mono (ok' := fun k_ => (P0_2_ k_ ∨ w.heap.size ≤ k_) ∧ some k_ ≠ (.slice Ao35 y954.length co35 : Value).ownBlock ∧ some k_ ≠ (.slice Ao36 y957.length co36 : Value).ownBlock ∧ k_ ≠ gb947 ∧ k_ ≠ gb981) ho0 (fun k_ hk_ => ⟨(.inr (Nat.le_trans (below_size m_7) hk_)), (Kd.fresh' (Kd.N_lt m_14) k_ hk_), (Kd.fresh' (Kd.R_lt (rA_ HO959.out)) k_ hk_), (Kd.freshB (bA_ BK947.out) k_ hk_), (Kd.freshB (bA_ BK981.out) k_ hk_)⟩)) (below_size m_7))
        have HO989 := Aside0.mk (Kd.V_lower (Kd.V_mono (ok' := fun k_ => (P0_2_ k_ ∨ w.heap.size ≤ k_) ∧ some k_ ≠ (.slice Ao35 y954.length co35 : Value).ownBlock ∧ some k_ ≠ (.slice Ao36 y957.length co36 : Value).ownBlock ∧ k_ ≠ gb947 ∧ k_ ≠ gb981) ho1 (fun k_ hk_ => ⟨(.inr (Nat.le_trans (below_size m_7) hk_)), (Kd.fresh' (Kd.N_lt m_14) k_ hk_), (Kd.fresh' (Kd.R_lt (rA_ HO959.out)) k_ hk_), (Kd.freshB (bA_ BK947.out) k_ hk_), (Kd.freshB (bA_ BK981.out) k_ hk_)⟩)) (below_size m_7))
        replace HO_948002 := vB_ HO_948002 hb
        replace HO956 := Aside0.mk (Kd.N_below m_14 hb)
        replace HO959 := rB_ HO959 hb
        replace HO967 := vB_ HO967 hb
        replace HO971 := vB_ HO971 hb
        replace HO975 := vB_ HO975 hb
        replace HO979 := vB_ HO979 hb
        replace BK947 := bB_ BK947 hb
        replace BK981 := bB_ BK981 hb
        replace HB := Aside0.mk (below_step m_7 hb)
        (try clear hb); (try clear hb2); (try clear hk); (try clear hi); (try clear ho0); (try clear ho1)
        obtain ⟨Ao54, co54, eo54⟩ := Kd.V_slice HO985.out
        (first | subst eo54 | (injection eo54 with f1_ f2_ f3_; have f4_ := f1_.symm; have f5_ := f3_.symm; clear f1_ f2_ f3_; subst f4_; subst f5_))
        obtain ⟨Ao55, co55, eo55⟩ := Kd.V_slice HO989.out
        (first | subst eo55 | (injection eo55 with f1_ f2_ f3_; have f4_ := f1_.symm; have f5_ := f3_.symm; clear f1_ f2_ f3_; subst f4_; subst f5_))
        refine nx_ ⟨(blk_cell BK981.out 0).trans rfl, (blk_cell BK981.out 1).trans rfl, (blk_cell BK981.out 2).trans rfl, (blk_cell BK981.out 3).trans rfl, (blk_cell BK947.out 0).trans rfl, (blk_cell BK947.out 1).trans rfl, (blk_cell BK947.out 2).trans rfl, (blk_cell BK947.out 3).trans rfl, (blk_cell BK947.out 4).trans rfl, (blk_cell BK947.out 5).trans rfl, (blk_cell BK947.out 6).trans rfl, (blk_cell BK947.out 7).trans rfl, (blk_cell BK947.out 8).trans rfl⟩ (fun hHeld => ?_)
        refine cB_1 6 Try.func40 (args := #[.agg #[.bool t972, .slice Ao46 t973.length co46, .bool t976, .slice Ao49 t977.length co49], .agg #[.bool t982, .slice Ao54 t983.length co54, .bool t986, .slice Ao55 t987.length co55]]) ?_
        with_reducible refine (frac_Equal.calls t972 _ _ t973 t976 _ _ t977 t982 _ _ t983 t986 _ _ t987 true _ ?side1 ?side2 ?side3 ?side4 ?side5 ?side6 ?side7 ?side8 A26.out).mono ?_
        (case side1 => exact cA_ (Kd.V_reads' HO975.out).2.2)
        (case side2 => exact (Kd.V_reads' HO975.out).2.1)
        (case side3 => exact cA_ (Kd.V_reads' HO979.out).2.2)
        (case side4 => exact (Kd.V_reads' HO979.out).2.1)
        (case side5 => exact cA_ (Kd.V_reads' HO985.out).2.2)
        (case side6 => exact (Kd.V_reads' HO985.out).2.1)
        (case side7 => exact cA_ (Kd.V_reads' HO989.out).2.2)
        (case side8 => exact (Kd.V_reads' HO989.out).2.1)
        rintro e w56 ⟨rfl, hb⟩
        refine ⟨_, rfl, ?_⟩
        replace HO_948002 := vB_ HO_948002 hb
        replace HO956 := Aside0.mk (Kd.N_below m_14 hb)
        replace HO959 := rB_ HO959 hb
        replace HO967 := vB_ HO967 hb
        replace HO971 := vB_ HO971 hb
        replace HO975 := vB_ HO975 hb
        replace HO979 := vB_ HO979 hb
        replace HO985 := vB_ HO985 hb
        replace HO989 := vB_ HO989 hb
        replace BK947 := bB_ BK947 hb
        replace BK981 := bB_ BK981 hb
        replace HB := Aside0.mk (below_step m_7 hb)
        (try clear hb); (try clear hb2); (try clear hk); (try clear hi)
        refine nx_ ⟨(blk_cell BK981.out 0).trans rfl, (blk_cell BK981.out 1).trans rfl, (blk_cell BK981.out 2).trans rfl, (blk_cell BK981.out 3).trans rfl, (blk_cell BK947.out 0).trans rfl, (blk_cell BK947.out 1).trans rfl, (blk_cell BK947.out 2).trans rfl, (blk_cell BK947.out 3).trans rfl, (blk_cell BK947.out 4).trans rfl, (blk_cell BK947.out 5).trans rfl, (blk_cell BK947.out 6).trans rfl, (blk_cell BK947.out 7).trans rfl, (blk_cell BK947.out 8).trans rfl⟩ (fun hHeld => ?_)
        refine pA_ 7 HT_.out ?_
        refine pA_ 8 HT_.out ?_
        refine pA_ 9 HT_.out ?_
        refine pA_ 10 HT_.out ?_
        refine tA_ 11 HT_.out HW_.out hHeld ?_
        refine pA_ 12 HT_.out ?_
        refine pA_ 13 HT_.out ?_
        refine pA_ 14 HT_.out ?_
        refine pA_ 15 HT_.out ?_
        refine tA_ 16 HT_.out HW_.out hHeld ?_
        refine cB_1 17 Try.func37 (args := #[.agg #[.int .i64 a0_0, .int .i64 a0_1, .slice A0_2 l0_2.length c0_2, .int .i64 a0_3, .int .i64 a0_4, .int .i64 a0_5, .int .i64 a0_6, .int .i64 a0_7, .int .i64 a0_8]]) ?_
        with_reducible refine (unit_Max.calls kj2 a0_0 a0_1 _ _ l0_2 a0_3 a0_4 a0_5 a0_6 a0_7 a0_8 t991 _ ?side1 ?side2 A29.out).mono ?_
        (case side1 => exact cA_ (Kd.V_reads' HO_948002.out).2.2)
        (case side2 => exact (Kd.V_reads' HO_948002.out).2.1)
        rintro e w57 ⟨rfl, hb⟩
        refine ⟨_, rfl, ?_⟩
        replace HO_948002 := vB_ HO_948002 hb
        replace HO956 := Aside0.mk (Kd.N_below m_14 hb)
        replace HO959 := rB_ HO959 hb
        replace HO967 := vB_ HO967 hb
        replace HO971 := vB_ HO971 hb
        replace HO975 := vB_ HO975 hb
        replace HO979 := vB_ HO979 hb
        replace HO985 := vB_ HO985 hb
        replace HO989 := vB_ HO989 hb
        replace BK947 := bB_ BK947 hb
        replace BK981 := bB_ BK981 hb
        replace HB := Aside0.mk (below_step m_7 hb)
        (try clear hb); (try clear hb2); (try clear hk); (try clear hi)
        refine nx_ ⟨(blk_cell BK981.out 0).trans rfl, (blk_cell BK981.out 1).trans rfl, (blk_cell BK981.out 2).trans rfl, (blk_cell BK981.out 3).trans rfl, (blk_cell BK947.out 0).trans rfl, (blk_cell BK947.out 1).trans rfl, (blk_cell BK947.out 2).trans rfl, (blk_cell BK947.out 3).trans rfl, (blk_cell BK947.out 4).trans rfl, (blk_cell BK947.out 5).trans rfl, (blk_cell BK947.out 6).trans rfl, (blk_cell BK947.out 7).trans rfl, (blk_cell BK947.out 8).trans rfl⟩ (fun hHeld => ?_)
        refine pA_ 18 HT_.out ?_
        refine pA_ 19 HT_.out ?_
        refine pA_ 20 HT_.out ?_
        refine done_ (done_of HT_.out m_13) ?_
        try go_wp2
        go_ret
        exact ⟨m_5, m_7⟩
       ·rw [if_neg c28] at H
        cases H
      ·rw [if_neg c27] at H
       cases H
     ·rw [if_neg c24] at H
      cases H
    ·rw [if_neg c21] at H
     have c21b0 : (t961 == 0) = false := beq_eq_false_iff_ne.mpr c21
     have c21b1 : (t961 != 0) = true := bne_iff_ne.mpr c21
     replace H := Option.bind_eq_some_iff.mp H
     obtain ⟨t962, A1350, H⟩ := H
     replace H : (if t962 = 0 then (if a1 < a0_1 then (some true) else ((unit_Max.f kj2 a0_0 a0_1 l0_2 a0_3 a0_4 a0_5 a0_6 a0_7 a0_8).bind fun t963 => (some (decide (a1 > t963))))) else (some true)) = some r := H
     have A135 := Aside0.mk A1350
     clear A1350
     by_cases c136 : t962 = 0
     ·rw [if_pos c136] at H
      have c136b0 : (t962 == 0) = true := beq_iff_eq.mpr c136
      have c136b1 : (t962 != 0) = false := bne_eq_false_iff_eq.mpr c136
      clear c136
      by_cases c137 : a1 < a0_1
      ·rw [if_pos c137] at H
       have c137b0 : decide (a1 < a0_1) = true := decide_eq_true c137
       clear c137
       obtain rfl := Option.some.inj H
       obtain ⟨hcz138_0, hcz138_1, hcz138_2, hcz138_3, hcz138_4, hcz138_5, hcz138_6, hcz138_7, hcz138_8, hfz138_0, hfz138_1, hfz138_2, hfz138_3, hfz138_4, hfz138_5, hfz138_6, hfz138_7, hfz138_8⟩ := cf9_ BK947
       go_wp2_with (first | ((with_reducible refine gate_dst (N := 19) rfl ?_); refine Kd.N_lit k24 _ 24 ?hg (N' := 19) ?hd (xs := ([(⟨a0_0, a0_1, l0_2, a0_3, a0_4, a0_5, a0_6, a0_7, a0_8⟩ : S24)] : List (S24))) (inner := [.int .i64 a0_0, .int .i64 a0_1, .slice A0_2 l0_2.length c0_2, .int .i64 a0_3, .int .i64 a0_4, .int .i64 a0_5, .int .i64 a0_6, .int .i64 a0_7, .int .i64 a0_8]) (ok := (fun k_ => (P0_2_ k_ ∨ w.heap.size ≤ k_) ∧ k_ ≠ gb947)) (okp := (fun k_ => (P0_2_ k_ ∨ w.heap.size ≤ k_) ∧ k_ ≠ gb947)) ?hr ?hp (fun _ hk => hk) ((show ∀ k_, wc.heap.size ≤ k_ → (fun k_ => (P0_2_ k_ ∨ w.heap.size ≤ k_) ∧ k_ ≠ gb947) k_ from fun k_ hk => ⟨(.inr (Nat.le_trans (below_size m_3) hk)), Kd.freshB (bA_ BK947.out) k_ hk⟩) _ (Nat.le_refl _)) (Below.refl _ _) (Nat.le_refl _) (by simp) ?_; (case hd => rfl); (case hg => rfl); (case hr => exact hr_); (case hp => exact (Reps.c9 (show Kd.FK k24 _ _ (⟨a0_0, a0_1, l0_2, a0_3, a0_4, a0_5, a0_6, a0_7, a0_8⟩ : S24) [.int .i64 a0_0, .int .i64 a0_1, .slice A0_2 l0_2.length c0_2, .int .i64 a0_3, .int .i64 a0_4, .int .i64 a0_5, .int .i64 a0_6, .int .i64 a0_7, .int .i64 a0_8] from (k24_mkF _ _ (⟨a0_0, a0_1, l0_2, a0_3, a0_4, a0_5, a0_6, a0_7, a0_8⟩ : S24) (Kd.V_reads' (Kd.V_mono (ok' := (fun k_ => (P0_2_ k_ ∨ w.heap.size ≤ k_) ∧ k_ ≠ gb947)) (HO_948002.out) (fun k_ hk => ⟨hk.1, hk.2⟩))).2.1 (Kd.V_F (Kd.V_mono (ok' := (fun k_ => (P0_2_ k_ ∨ w.heap.size ≤ k_) ∧ k_ ≠ gb947)) (HO_948002.out) (fun k_ hk => ⟨hk.1, hk.2⟩))))) (Reps.none _ _))); intro v955 w139 ho140 hb hg_ hnew_; clear hg_ hnew_; (first | rw [← Ny954.out] at ho140 | (simp only [Int.reduceToNat] at ho140; rw [← Ny954.out] at ho140)); have HO956 := Aside0.mk (Kd.N_lower ho140 (below_size m_3)); replace HO_948002 := Aside0.mk (Kd.V_elder' (vA_ HO_948002.out) (Kd.N_base ho140) hb); replace BK947 := bB_ BK947 hb; replace HB := Aside0.mk (below_step m_3 hb); clear hb ho140) | ((with_reducible refine gate_dst (N := 20) rfl ?_); refine Kd.R_lit Kd.bool _ 4 ?hg (N := 20) ?hd (xs := ([true] : List Bool)) (inner := [.bool true]) (ok := fun _ => True) (okp := fun _ => True) ?hr ?hp (fun _ hk => hk) trivial (Below.refl _ _) (Nat.le_refl _) (by simp) ?_; (case hd => rfl); (case hg => rfl); (case hr => exact hr_); (case hp => exact (Reps.one (show Kd.M Kd.bool _ _ _ true [.bool true] from rfl) (Reps.none _ _))); intro v958 w141 ho142 hb hg_ hnew_; clear hg_ hnew_; (first | rw [← Ny957.out] at ho142 | (simp only [Int.reduceToNat] at ho142; rw [← Ny957.out] at ho142)); have HO959 := Aside0.mk (Kd.R_lower (Kd.R_newM (M := fun k_ => (w.heap.size ≤ k_)) ho142 (below_size m_3) (fun k_ h_ => h_)) (below_size m_3)); replace HO_948002 := Aside0.mk (Kd.V_elder' (vA_ HO_948002.out) (Kd.R_base ho142) hb); replace HO956 := Aside0.mk (Kd.N_elder' m_14 (Kd.R_base ho142) hb); replace BK947 := bB_ BK947 hb; replace HB := Aside0.mk (below_step m_3 hb); clear hb ho142; obtain ⟨Ao143, co143, eo143⟩ := Kd.N_slice HO956.out; subst eo143; obtain ⟨Ao144, co144, eo144⟩ := Kd.R_slice HO959.out; subst eo144) | ((with_reducible refine gate_callee (f := 33) rfl ?_); refine goesL_ (some 22) rfl rfl Try.func33 m_13 rfl #[.slice Ao143 y954.length co143, .slice Ao144 y957.length co144, .int .i64 a1] rfl m_2 ?_; (with_reducible refine (energy_LeastCost.calls kj2 _ _ y954 _ _ y957 a1 t960 t961 _ ?side1 ?side2 ?side3 ?side4 A20.out).mono ?_); (case side1 => exact cA_ (Kd.N_reads' HO956.out).2.2); (case side2 => exact (Kd.N_reads' HO956.out).2.1); (case side3 => exact cA_ (Kd.R_reads' HO959.out).2.2); (case side4 => exact (Kd.R_reads' HO959.out).2.1); rintro e w145 ⟨rfl, hb⟩; refine ⟨_, rfl, ?_⟩; replace HO_948002 := vB_ HO_948002 hb; replace HO956 := Aside0.mk (Kd.N_below m_14 hb); replace HO959 := rB_ HO959 hb; replace BK947 := bB_ BK947 hb; replace HB := Aside0.mk (below_step m_3 hb); clear hb; obtain ⟨hcz146_0, hcz146_1, hcz146_2, hcz146_3, hcz146_4, hcz146_5, hcz146_6, hcz146_7, hcz146_8, hfz146_0, hfz146_1, hfz146_2, hfz146_3, hfz146_4, hfz146_5, hfz146_6, hfz146_7, hfz146_8⟩ := cf9_ BK947) | ((with_reducible refine gate_callee (f := 34) rfl ?_); refine goesL_ (some 28) rfl rfl Try.func34 m_13 rfl #[.agg #[.int .i64 a0_0, .int .i64 a0_1, .slice A0_2 l0_2.length c0_2, .int .i64 a0_3, .int .i64 a0_4, .int .i64 a0_5, .int .i64 a0_6, .int .i64 a0_7, .int .i64 a0_8], .int .i64 6] rfl m_2 ?_; (with_reducible refine (unit_Check.calls kj2 a0_0 a0_1 _ _ l0_2 a0_3 a0_4 a0_5 a0_6 a0_7 a0_8 6 t962 _ ?side1 ?side2 A135.out).mono ?_); (case side1 => exact cA_ (Kd.V_reads' HO_948002.out).2.2); (case side2 => exact (Kd.V_reads' HO_948002.out).2.1); rintro e w147 ⟨rfl, hb⟩; refine ⟨_, rfl, ?_⟩; replace HO_948002 := vB_ HO_948002 hb; replace HO956 := Aside0.mk (Kd.N_below m_14 hb); replace HO959 := rB_ HO959 hb; replace BK947 := bB_ BK947 hb; replace HB := Aside0.mk (below_step m_3 hb); clear hb; obtain ⟨hcz148_0, hcz148_1, hcz148_2, hcz148_3, hcz148_4, hcz148_5, hcz148_6, hcz148_7, hcz148_8, hfz148_0, hfz148_1, hfz148_2, hfz148_3, hfz148_4, hfz148_5, hfz148_6, hfz148_7, hfz148_8⟩ := cf9_ BK947))
       go_ret
       exact ⟨m_5, m_3⟩
      ·rw [if_neg c137] at H
       have c137b0 : decide (a1 < a0_1) = false := decide_eq_false c137
       clear c137
       replace H := Option.bind_eq_some_iff.mp H
       obtain ⟨t963, A1490, H⟩ := H
       replace H : (some (decide (a1 > t963))) = some r := H
       have A149 := Aside0.mk A1490
       clear A1490
       obtain rfl := Option.some.inj H
       obtain ⟨hcz150_0, hcz150_1, hcz150_2, hcz150_3, hcz150_4, hcz150_5, hcz150_6, hcz150_7, hcz150_8, hfz150_0, hfz150_1, hfz150_2, hfz150_3, hfz150_4, hfz150_5, hfz150_6, hfz150_7, hfz150_8⟩ := cf9_ BK947
       go_wp2_with (first | ((with_reducible refine gate_dst (N := 19) rfl ?_); refine Kd.N_lit k24 _ 24 ?hg (N' := 19) ?hd (xs := ([(⟨a0_0, a0_1, l0_2, a0_3, a0_4, a0_5, a0_6, a0_7, a0_8⟩ : S24)] : List (S24))) (inner := [.int .i64 a0_0, .int .i64 a0_1, .slice A0_2 l0_2.length c0_2, .int .i64 a0_3, .int .i64 a0_4, .int .i64 a0_5, .int .i64 a0_6, .int .i64 a0_7, .int .i64 a0_8]) (ok := (fun k_ => (P0_2_ k_ ∨ w.heap.size ≤ k_) ∧ k_ ≠ gb947)) (okp := (fun k_ => (P0_2_ k_ ∨ w.heap.size ≤ k_) ∧ k_ ≠ gb947)) ?hr ?hp (fun _ hk => hk) ((show ∀ k_, wc.heap.size ≤ k_ → (fun k_ => (P0_2_ k_ ∨ w.heap.size ≤ k_) ∧ k_ ≠ gb947) k_ from fun k_ hk => ⟨(.inr (Nat.le_trans (below_size m_3) hk)), Kd.freshB (bA_ BK947.out) k_ hk⟩) _ (Nat.le_refl _)) (Below.refl _ _) (Nat.le_refl _) (by simp) ?_; (case hd => rfl); (case hg => rfl); (case hr => exact hr_); (case hp => exact (Reps.c9 (show Kd.FK k24 _ _ (⟨a0_0, a0_1, l0_2, a0_3, a0_4, a0_5, a0_6, a0_7, a0_8⟩ : S24) [.int .i64 a0_0, .int .i64 a0_1, .slice A0_2 l0_2.length c0_2, .int .i64 a0_3, .int .i64 a0_4, .int .i64 a0_5, .int .i64 a0_6, .int .i64 a0_7, .int .i64 a0_8] from (k24_mkF _ _ (⟨a0_0, a0_1, l0_2, a0_3, a0_4, a0_5, a0_6, a0_7, a0_8⟩ : S24) (Kd.V_reads' (Kd.V_mono (ok' := (fun k_ => (P0_2_ k_ ∨ w.heap.size ≤ k_) ∧ k_ ≠ gb947)) (HO_948002.out) (fun k_ hk => ⟨hk.1, hk.2⟩))).2.1 (Kd.V_F (Kd.V_mono (ok' := (fun k_ => (P0_2_ k_ ∨ w.heap.size ≤ k_) ∧ k_ ≠ gb947)) (HO_948002.out) (fun k_ hk => ⟨hk.1, hk.2⟩))))) (Reps.none _ _))); intro v955 w151 ho152 hb hg_ hnew_; clear hg_ hnew_; (first | rw [← Ny954.out] at ho152 | (simp only [Int.reduceToNat] at ho152; rw [← Ny954.out] at ho152)); have HO956 := Aside0.mk (Kd.N_lower ho152 (below_size m_3)); replace HO_948002 := Aside0.mk (Kd.V_elder' (vA_ HO_948002.out) (Kd.N_base ho152) hb); replace BK947 := bB_ BK947 hb; replace HB := Aside0.mk (below_step m_3 hb); clear hb ho152) | ((with_reducible refine gate_dst (N := 20) rfl ?_); refine Kd.R_lit Kd.bool _ 4 ?hg (N := 20) ?hd (xs := ([true] : List Bool)) (inner := [.bool true]) (ok := fun _ => True) (okp := fun _ => True) ?hr ?hp (fun _ hk => hk) trivial (Below.refl _ _) (Nat.le_refl _) (by simp) ?_; (case hd => rfl); (case hg => rfl); (case hr => exact hr_); (case hp => exact (Reps.one (show Kd.M Kd.bool _ _ _ true [.bool true] from rfl) (Reps.none _ _))); intro v958 w153 ho154 hb hg_ hnew_; clear hg_ hnew_; (first | rw [← Ny957.out] at ho154 | (simp only [Int.reduceToNat] at ho154; rw [← Ny957.out] at ho154)); have HO959 := Aside0.mk (Kd.R_lower (Kd.R_newM (M := fun k_ => (w.heap.size ≤ k_)) ho154 (below_size m_3) (fun k_ h_ => h_)) (below_size m_3)); replace HO_948002 := Aside0.mk (Kd.V_elder' (vA_ HO_948002.out) (Kd.R_base ho154) hb); replace HO956 := Aside0.mk (Kd.N_elder' m_14 (Kd.R_base ho154) hb); replace BK947 := bB_ BK947 hb; replace HB := Aside0.mk (below_step m_3 hb); clear hb ho154; obtain ⟨Ao155, co155, eo155⟩ := Kd.N_slice HO956.out; subst eo155; obtain ⟨Ao156, co156, eo156⟩ := Kd.R_slice HO959.out; subst eo156) | ((with_reducible refine gate_callee (f := 33) rfl ?_); refine goesL_ (some 22) rfl rfl Try.func33 m_13 rfl #[.slice Ao155 y954.length co155, .slice Ao156 y957.length co156, .int .i64 a1] rfl m_2 ?_; (with_reducible refine (energy_LeastCost.calls kj2 _ _ y954 _ _ y957 a1 t960 t961 _ ?side1 ?side2 ?side3 ?side4 A20.out).mono ?_); (case side1 => exact cA_ (Kd.N_reads' HO956.out).2.2); (case side2 => exact (Kd.N_reads' HO956.out).2.1); (case side3 => exact cA_ (Kd.R_reads' HO959.out).2.2); (case side4 => exact (Kd.R_reads' HO959.out).2.1); rintro e w157 ⟨rfl, hb⟩; refine ⟨_, rfl, ?_⟩; replace HO_948002 := vB_ HO_948002 hb; replace HO956 := Aside0.mk (Kd.N_below m_14 hb); replace HO959 := rB_ HO959 hb; replace BK947 := bB_ BK947 hb; replace HB := Aside0.mk (below_step m_3 hb); clear hb; obtain ⟨hcz158_0, hcz158_1, hcz158_2, hcz158_3, hcz158_4, hcz158_5, hcz158_6, hcz158_7, hcz158_8, hfz158_0, hfz158_1, hfz158_2, hfz158_3, hfz158_4, hfz158_5, hfz158_6, hfz158_7, hfz158_8⟩ := cf9_ BK947) | ((with_reducible refine gate_callee (f := 34) rfl ?_); refine goesL_ (some 28) rfl rfl Try.func34 m_13 rfl #[.agg #[.int .i64 a0_0, .int .i64 a0_1, .slice A0_2 l0_2.length c0_2, .int .i64 a0_3, .int .i64 a0_4, .int .i64 a0_5, .int .i64 a0_6, .int .i64 a0_7, .int .i64 a0_8], .int .i64 6] rfl m_2 ?_; (with_reducible refine (unit_Check.calls kj2 a0_0 a0_1 _ _ l0_2 a0_3 a0_4 a0_5 a0_6 a0_7 a0_8 6 t962 _ ?side1 ?side2 A135.out).mono ?_); (case side1 => exact cA_ (Kd.V_reads' HO_948002.out).2.2); (case side2 => exact (Kd.V_reads' HO_948002.out).2.1); rintro e w159 ⟨rfl, hb⟩; refine ⟨_, rfl, ?_⟩; replace HO_948002 := vB_ HO_948002 hb; replace HO956 := Aside0.mk (Kd.N_below m_14 hb); replace HO959 := rB_ HO959 hb; replace BK947 := bB_ BK947 hb; replace HB := Aside0.mk (below_step m_3 hb); (try clear hb); obtain ⟨hcz160_0, hcz160_1, hcz160_2, hcz160_3, hcz160_4, hcz160_5, hcz160_6, hcz160_7, hcz160_8, hfz160_0, hfz160_1, hfz160_2, hfz160_3, hfz160_4, hfz160_5, hfz160_6, hfz160_7, hfz160_8⟩ := cf9_ BK947) | (go_at_call 37; (with_reducible refine (unit_Max.calls kj2 a0_0 a0_1 _ _ l0_2 a0_3 a0_4 a0_5 a0_6 a0_7 a0_8 t963 _ ?side1 ?side2 A149.out).mono ?_); (case side1 => exact cA_ (Kd.V_reads' HO_948002.out).2.2); (case side2 => exact (Kd.V_reads' HO_948002.out).2.1); rintro e w161 ⟨rfl, hb⟩; replace HO_948002 := vB_ HO_948002 hb; replace HO956 := Aside0.mk (Kd.N_below m_14 hb); replace HO959 := rB_ HO959 hb; replace BK947 := bB_ BK947 hb; replace HB := Aside0.mk (below_step m_3 hb); (try clear hb)))
       go_ret
       exact ⟨m_5, m_3⟩
     ·rw [if_neg c136] at H
      have c136b0 : (t962 == 0) = false := beq_eq_false_iff_ne.mpr c136
      have c136b1 : (t962 != 0) = true := bne_iff_ne.mpr c136
      obtain rfl := Option.some.inj H
      obtain ⟨hcz162_0, hcz162_1, hcz162_2, hcz162_3, hcz162_4, hcz162_5, hcz162_6, hcz162_7, hcz162_8, hfz162_0, hfz162_1, hfz162_2, hfz162_3, hfz162_4, hfz162_5, hfz162_6, hfz162_7, hfz162_8⟩ := cf9_ BK947
      go_wp2_with (first | ((with_reducible refine gate_dst (N := 19) rfl ?_); refine Kd.N_lit k24 _ 24 ?hg (N' := 19) ?hd (xs := ([(⟨a0_0, a0_1, l0_2, a0_3, a0_4, a0_5, a0_6, a0_7, a0_8⟩ : S24)] : List (S24))) (inner := [.int .i64 a0_0, .int .i64 a0_1, .slice A0_2 l0_2.length c0_2, .int .i64 a0_3, .int .i64 a0_4, .int .i64 a0_5, .int .i64 a0_6, .int .i64 a0_7, .int .i64 a0_8]) (ok := (fun k_ => (P0_2_ k_ ∨ w.heap.size ≤ k_) ∧ k_ ≠ gb947)) (okp := (fun k_ => (P0_2_ k_ ∨ w.heap.size ≤ k_) ∧ k_ ≠ gb947)) ?hr ?hp (fun _ hk => hk) ((show ∀ k_, wc.heap.size ≤ k_ → (fun k_ => (P0_2_ k_ ∨ w.heap.size ≤ k_) ∧ k_ ≠ gb947) k_ from fun k_ hk => ⟨(.inr (Nat.le_trans (below_size m_3) hk)), Kd.freshB (bA_ BK947.out) k_ hk⟩) _ (Nat.le_refl _)) (Below.refl _ _) (Nat.le_refl _) (by simp) ?_; (case hd => rfl); (case hg => rfl); (case hr => exact hr_); (case hp => exact (Reps.c9 (show Kd.FK k24 _ _ (⟨a0_0, a0_1, l0_2, a0_3, a0_4, a0_5, a0_6, a0_7, a0_8⟩ : S24) [.int .i64 a0_0, .int .i64 a0_1, .slice A0_2 l0_2.length c0_2, .int .i64 a0_3, .int .i64 a0_4, .int .i64 a0_5, .int .i64 a0_6, .int .i64 a0_7, .int .i64 a0_8] from (k24_mkF _ _ (⟨a0_0, a0_1, l0_2, a0_3, a0_4, a0_5, a0_6, a0_7, a0_8⟩ : S24) (Kd.V_reads' (Kd.V_mono (ok' := (fun k_ => (P0_2_ k_ ∨ w.heap.size ≤ k_) ∧ k_ ≠ gb947)) (HO_948002.out) (fun k_ hk => ⟨hk.1, hk.2⟩))).2.1 (Kd.V_F (Kd.V_mono (ok' := (fun k_ => (P0_2_ k_ ∨ w.heap.size ≤ k_) ∧ k_ ≠ gb947)) (HO_948002.out) (fun k_ hk => ⟨hk.1, hk.2⟩))))) (Reps.none _ _))); intro v955 w163 ho164 hb hg_ hnew_; clear hg_ hnew_; (first | rw [← Ny954.out] at ho164 | (simp only [Int.reduceToNat] at ho164; rw [← Ny954.out] at ho164)); have HO956 := Aside0.mk (Kd.N_lower ho164 (below_size m_3)); replace HO_948002 := Aside0.mk (Kd.V_elder' (vA_ HO_948002.out) (Kd.N_base ho164) hb); replace BK947 := bB_ BK947 hb; replace HB := Aside0.mk (below_step m_3 hb); clear hb ho164) | ((with_reducible refine gate_dst (N := 20) rfl ?_); refine Kd.R_lit Kd.bool _ 4 ?hg (N := 20) ?hd (xs := ([true] : List Bool)) (inner := [.bool true]) (ok := fun _ => True) (okp := fun _ => True) ?hr ?hp (fun _ hk => hk) trivial (Below.refl _ _) (Nat.le_refl _) (by simp) ?_; (case hd => rfl); (case hg => rfl); (case hr => exact hr_); (case hp => exact (Reps.one (show Kd.M Kd.bool _ _ _ true [.bool true] from rfl) (Reps.none _ _))); intro v958 w165 ho166 hb hg_ hnew_; clear hg_ hnew_; (first | rw [← Ny957.out] at ho166 | (simp only [Int.reduceToNat] at ho166; rw [← Ny957.out] at ho166)); have HO959 := Aside0.mk (Kd.R_lower (Kd.R_newM (M := fun k_ => (w.heap.size ≤ k_)) ho166 (below_size m_3) (fun k_ h_ => h_)) (below_size m_3)); replace HO_948002 := Aside0.mk (Kd.V_elder' (vA_ HO_948002.out) (Kd.R_base ho166) hb); replace HO956 := Aside0.mk (Kd.N_elder' m_14 (Kd.R_base ho166) hb); replace BK947 := bB_ BK947 hb; replace HB := Aside0.mk (below_step m_3 hb); clear hb ho166; obtain ⟨Ao167, co167, eo167⟩ := Kd.N_slice HO956.out; subst eo167; obtain ⟨Ao168, co168, eo168⟩ := Kd.R_slice HO959.out; subst eo168) | ((with_reducible refine gate_callee (f := 33) rfl ?_); refine goesL_ (some 22) rfl rfl Try.func33 m_13 rfl #[.slice Ao167 y954.length co167, .slice Ao168 y957.length co168, .int .i64 a1] rfl m_2 ?_; (with_reducible refine (energy_LeastCost.calls kj2 _ _ y954 _ _ y957 a1 t960 t961 _ ?side1 ?side2 ?side3 ?side4 A20.out).mono ?_); (case side1 => exact cA_ (Kd.N_reads' HO956.out).2.2); (case side2 => exact (Kd.N_reads' HO956.out).2.1); (case side3 => exact cA_ (Kd.R_reads' HO959.out).2.2); (case side4 => exact (Kd.R_reads' HO959.out).2.1); rintro e w169 ⟨rfl, hb⟩; refine ⟨_, rfl, ?_⟩; replace HO_948002 := vB_ HO_948002 hb; replace HO956 := Aside0.mk (Kd.N_below m_14 hb); replace HO959 := rB_ HO959 hb; replace BK947 := bB_ BK947 hb; replace HB := Aside0.mk (below_step m_3 hb); clear hb; obtain ⟨hcz170_0, hcz170_1, hcz170_2, hcz170_3, hcz170_4, hcz170_5, hcz170_6, hcz170_7, hcz170_8, hfz170_0, hfz170_1, hfz170_2, hfz170_3, hfz170_4, hfz170_5, hfz170_6, hfz170_7, hfz170_8⟩ := cf9_ BK947) | ((with_reducible refine gate_callee (f := 34) rfl ?_); refine goesL_ (some 28) rfl rfl Try.func34 m_13 rfl #[.agg #[.int .i64 a0_0, .int .i64 a0_1, .slice A0_2 l0_2.length c0_2, .int .i64 a0_3, .int .i64 a0_4, .int .i64 a0_5, .int .i64 a0_6, .int .i64 a0_7, .int .i64 a0_8], .int .i64 6] rfl m_2 ?_; (with_reducible refine (unit_Check.calls kj2 a0_0 a0_1 _ _ l0_2 a0_3 a0_4 a0_5 a0_6 a0_7 a0_8 6 t962 _ ?side1 ?side2 A135.out).mono ?_); (case side1 => exact cA_ (Kd.V_reads' HO_948002.out).2.2); (case side2 => exact (Kd.V_reads' HO_948002.out).2.1); rintro e w171 ⟨rfl, hb⟩; refine ⟨_, rfl, ?_⟩; replace HO_948002 := vB_ HO_948002 hb; replace HO956 := Aside0.mk (Kd.N_below m_14 hb); replace HO959 := rB_ HO959 hb; replace BK947 := bB_ BK947 hb; replace HB := Aside0.mk (below_step m_3 hb); clear hb))
      go_ret
      exact ⟨m_5, m_3⟩
end Go.Proofs.Ytelklgdmhnkenaa.U
namespace Go.Proofs.Ytelklgdmhnkenaa.U
open Go.ChangeShapes Go.WideShapes Go.Deep
section
variable {H : Type} {enc : TypeId × Value → H} {P : Program} {w : World} {base : Nat} {spare : Nat → Bool} {held : Bool}
def Opens (enc : TypeId × Value → H) (P : Program) (w : World) (base : Nat) (spare : Nat → Bool) (held : Bool) {α : Type} (d : Kd α) (Q : α → Prop) (t : TypeId) : Prop :=
 ∀ (fuel : Nat) (cs : List Value) (x : DataW H × List MemPlace), DataW.trod enc P w base spare held fuel t cs = some x → ∃ y, d.K w y cs ∧ Q y
theorem opens_int {t : TypeId} {k : IntKind} (ht : P.underlying t = some (.int k)) : Opens enc P w base spare held (Kd.int k) (fun n => (Lit.int k n).wf = true) t := by
 intro fuel cs x h
 obtain ⟨n, hc, _, hw⟩ := DataW.trod_int ht h
 exact ⟨n, hc, hw⟩
theorem list_of {α : Type} (m : Nat) (R : Nat → α → Prop) (h : ∀ i, i < m → ∃ y, R i y) : ∃ l : List α, l.length = m ∧ ∀ i y, l[i]? = some y → R i y := by
 induction m with
 | zero => exact ⟨[], rfl, fun i y hy => by simp at hy⟩
 | succ m ih =>
  obtain ⟨l, hl, hr⟩ := ih (fun i hi => h i (by omega))
  obtain ⟨y, hy⟩ := h m (by omega)
  refine ⟨l ++ [y], (by simp [hl]), fun i z hz => ?_⟩
  rcases Nat.lt_or_ge i l.length with hi | hi
  ·rw [List.getElem?_append_left hi] at hz
   exact hr i z hz
  ·have : i = m := by
    have := (List.getElem?_eq_some_iff.1 hz).1
    simp at this
    omega
   subst this
   rw [← hl] at hz ⊢
   have : y = z := by simpa using hz
   subst this
   rw [hl]
   exact hy
theorem opens_slice {α : Type} {d : Kd α} {Q : α → Prop} {t e : TypeId} (ht : P.underlying t = some (.slice e)) (he : Opens enc P w base spare held d Q e) (hC : P.cellsOf e = d.sz) :
  Opens enc P w base spare held (Kd.slice e d) (fun l => ∀ y ∈ l, Q y) t := by
 intro fuel cs x h
 rcases open_slice ht h with ⟨rfl, _⟩ | ⟨a, len, cap, m, n, D, Pl, rfl, _, hl, hm, hmm, _, hi⟩
 ·exact ⟨[], ⟨none, 0, rfl, Nat.le_refl _, rfl, (by simp), fun h => absurd h (by simp)⟩, fun y hy => by cases hy⟩
 ·have hlm : len ≤ m := by rw [hmm]; split <;> omega
  obtain ⟨l, hll, hr⟩ := list_of len (fun i y => Q y ∧ ∃ cs', d.K w y cs' ∧ ∀ j u, cs'[j]? = some u → w.cell? (a.add (i * d.sz + j)) = some u) (fun i hil => by
   obtain ⟨cs', hc, htr⟩ := hi i (by omega)
   obtain ⟨y, hK, hQ⟩ := he _ _ _ htr
   rw [hC] at hc
   obtain ⟨_, hcl, hat⟩ := World.cells?_some hc
   refine ⟨y, hQ, cs', hK, fun j u hj => ?_⟩
   have hj' : j < d.sz := by have := (List.getElem?_eq_some_iff.1 hj).1; omega
   rw [← Go.Deep.add_add, hat j hj', hj])
  subst hll
  refine ⟨l, ⟨some a, cap, rfl, hl, rfl, (by simp only [maxLen] at hm; omega), fun _ => ⟨a, rfl, fun j p hj => ?_⟩⟩, fun y hy => ?_⟩
  ·obtain ⟨_, cs', hK, hat⟩ := hr j p hj
   exact ⟨cs', d.K_len hK, hK, hat⟩
  ·obtain ⟨i, hi⟩ := List.getElem?_of_mem hy
   exact (hr i y hi).1
theorem struct_cells {fs : Array Field} {t : TypeId} {fuel : Nat} {cs : List Value} {x : DataW H × List MemPlace} (ht : P.underlying t = some (.struct fs)) (hone : oneCellFields P fs = true) (h : DataW.trod enc P w base spare held fuel t cs = some x) :
  cs.length = P.cellsOf t ∧ ∀ (i : Nat) (f : Field), fs[i]? = some f → i < cs.length → ∃ n y v, cs[i]? = some v ∧ DataW.trod enc P w base spare held n f.type [v] = some y := by
 obtain ⟨ys, n, _, _, hlen, hyl, hf⟩ := DataW.trod_struct ht h
 refine ⟨hlen, fun i f hi hlt => ?_⟩
 obtain ⟨ho, hk⟩ := hone_of hone i f hi
 have h1 := hf i f hi
 rw [ho, hk, List.drop_eq_getElem_cons hlt] at h1
 have hiy : i < ys.length := by rw [hyl]; exact (Array.getElem?_eq_some_iff.1 hi).1
 rw [List.getElem?_eq_getElem hiy] at h1
 exact ⟨n, _, cs[i], List.getElem?_eq_getElem hlt, h1⟩
end
def wfI (n : Int) : Prop := -9223372036854775808 ≤ n ∧ n ≤ 9223372036854775807
theorem wfI_of {n : Int} (h : (Lit.int .i64 n).wf = true) : wfI n := bounds_i64 h
section
variable {H : Type} {enc : TypeId × Value → H} {w : World} {base : Nat} {spare : Nat → Bool} {held : Bool}
theorem open_i {t : TypeId} {n : Nat} {v : Value} {y : DataW H × List MemPlace} (ht : Try.prog.underlying t = some (.int .i64)) (h : DataW.trod enc Try.prog w base spare held n t [v] = some y) : ∃ a : Int, v = .int .i64 a ∧ wfI a := by
 obtain ⟨a, e, w0⟩ := opens_int ht _ _ _ h
 have e' : [v] = [Value.int .i64 a] := e
 exact ⟨a, (by simpa using e'), wfI_of w0⟩
theorem opens_step : Opens enc Try.prog w base spare held k99 (fun s => wfI s.f0 ∧ wfI s.f1) 99 := by
 intro fuel cs x h
 obtain ⟨hl, hc⟩ := struct_cells Try.underlying99 m_13 h
 rw [show Try.prog.cellsOf 99 = 2 from by kernel_rfl] at hl
 match cs, hl with
 | [c0, c1], _ =>
  obtain ⟨n0, y0, v0, h0, t0⟩ := hc 0 _ rfl (by simp)
  obtain ⟨n1, y1, v1, h1, t1⟩ := hc 1 _ rfl (by simp)
  obtain rfl : c0 = v0 := by simpa using h0
  obtain rfl : c1 = v1 := by simpa using h1
  obtain ⟨a, rfl, w0⟩ := open_i m_13 t0
  obtain ⟨b, rfl, w1⟩ := open_i m_13 t1
  exact ⟨⟨a, b⟩, k99_mk w ⟨a, b⟩, w0, w1⟩
structure wfU (u : S24) : Prop where
 h0 : wfI u.f0
 h1 : wfI u.f1
 h2 : ∀ s ∈ u.f2, wfI s.f0 ∧ wfI s.f1
 h3 : wfI u.f3
 h4 : wfI u.f4
 h5 : wfI u.f5
 h6 : wfI u.f6
 h7 : wfI u.f7
 h8 : wfI u.f8
set_option maxRecDepth 100000 in
theorem opens_unit : Opens enc Try.prog w base spare held k24 wfU 24 := by
 intro fuel cs x h
 obtain ⟨hl, hc⟩ := struct_cells Try.underlying24 m_13 h
 rw [show Try.prog.cellsOf 24 = 9 from by kernel_rfl] at hl
 match cs, hl with
 | [c0, c1, c2, c3, c4, c5, c6, c7, c8], _ =>
  obtain ⟨n0, y0, v0, h0, t0⟩ := hc 0 _ rfl (by simp)
  obtain ⟨n1, y1, v1, h1, t1⟩ := hc 1 _ rfl (by simp)
  obtain ⟨n2, y2, v2, h2, t2⟩ := hc 2 _ rfl (by simp)
  obtain ⟨n3, y3, v3, h3, t3⟩ := hc 3 _ rfl (by simp)
  obtain ⟨n4, y4, v4, h4, t4⟩ := hc 4 _ rfl (by simp)
  obtain ⟨n5, y5, v5, h5, t5⟩ := hc 5 _ rfl (by simp)
  obtain ⟨n6, y6, v6, h6, t6⟩ := hc 6 _ rfl (by simp)
  obtain ⟨n7, y7, v7, h7, t7⟩ := hc 7 _ rfl (by simp)
  obtain ⟨n8, y8, v8, h8, t8⟩ := hc 8 _ rfl (by simp)
  obtain rfl : c0 = v0 := by simpa using h0
  obtain rfl : c1 = v1 := by simpa using h1
  obtain rfl : c2 = v2 := by simpa using h2
  obtain rfl : c3 = v3 := by simpa using h3
  obtain rfl : c4 = v4 := by simpa using h4
  obtain rfl : c5 = v5 := by simpa using h5
  obtain rfl : c6 = v6 := by simpa using h6
  obtain rfl : c7 = v7 := by simpa using h7
  obtain rfl : c8 = v8 := by simpa using h8
  obtain ⟨a0, rfl, w0⟩ := open_i m_13 t0
  obtain ⟨a1, rfl, w1⟩ := open_i m_13 t1
  obtain ⟨l, ⟨A, c, e, hlc, hC⟩, hq⟩ := opens_slice Try.underlying22 opens_step m_13 _ _ _ t2
  obtain rfl : c2 = .slice A l.length c := by simpa using e
  obtain ⟨a3, rfl, w3⟩ := open_i m_13 t3
  obtain ⟨a4, rfl, w4⟩ := open_i m_13 t4
  obtain ⟨a5, rfl, w5⟩ := open_i m_13 t5
  obtain ⟨a6, rfl, w6⟩ := open_i m_13 t6
  obtain ⟨a7, rfl, w7⟩ := open_i m_13 t7
  obtain ⟨a8, rfl, w8⟩ := open_i m_13 t8
  exact ⟨⟨a0, a1, l, a3, a4, a5, a6, a7, a8⟩, k24_mk w ⟨a0, a1, l, a3, a4, a5, a6, a7, a8⟩ hlc hC, ⟨w0, w1, hq, w3, w4, w5, w6, w7, w8⟩⟩
set_option maxRecDepth 100000 in
theorem arg_unit {r : Reach} {b0 : Nat} {v : Value} {d : DataW H} {p : List MemPlace} (hv : Value.okWide Try.prog w r b0 24 v) (h : DataW.Trod enc Try.prog w base spare held 24 v d p) :
  ∃ (u : S24) (A : Option Addr) (c : Nat), v = .agg #[.int .i64 u.f0, .int .i64 u.f1, .slice A u.f2.length c, .int .i64 u.f3, .int .i64 u.f4, .int .i64 u.f5, .int .i64 u.f6, .int .i64 u.f7, .int .i64 u.f8] ∧ u.f2.length ≤ c ∧ Kd.C k99 w A u.f2.length u.f2 ∧ wfU u := by
 have hs := okWide_struct Try.underlying24 hv
 obtain ⟨cs, hv2, _⟩ := hs
 clear hv
 subst hv2
 obtain ⟨fuel, hf⟩ := h
 have ho := opens_unit fuel cs.toList _ hf
 clear hf
 obtain ⟨u, hK, hq⟩ := ho
 obtain ⟨A, c, e, hl, hC⟩ := k24_open hK
 exact ⟨u, A, c, (by rw [← e]), hl, hC, hq⟩
end
section
variable {H : Type} {enc : TypeId × Value → H} {P : Program} {w : World} {base : Nat} {spare : Nat → Bool} {held : Bool}
end
theorem single_plain (u : S24) (d : Int) (hd : -9223372036854775808 ≤ d ∧ d ≤ 9223372036854775807) : Evs (fun k => pylonlaw28_EnergySingleUnit.f k u.f0 u.f1 u.f2 u.f3 u.f4 u.f5 u.f6 u.f7 u.f8 d) true := by
  unfold pylonlaw28_EnergySingleUnit.f
  refine (Long_f [u] []).bind ?_
  have hj : Evs (fun k => pylonlaw28_EnergySingleUnit.j0 k d true u.f0 u.f1 u.f2 u.f3 u.f4 u.f5 u.f6 u.f7 u.f8) true := by
    refine Evs.succ ?_
    simp only [pylonlaw28_EnergySingleUnit.j0, if_true]
    exact awake_f.bind (Evs.const rfl)
  by_cases hL : longB [u] [] = true
  · simp only [if_pos hL]
    exact hj
  simp only [if_neg hL]
  refine awake_f.bind ?_
  refine Evs.succ ?_
  simp only [pylonlaw28_EnergySingleUnit.j0, Bool.not_true, if_neg (show ¬ (false = true) by decide)]
  refine (least_f [u] [true] d).bind ?_
  by_cases c0 : (allocR [u] [true] d).2 = 0
  · obtain ⟨hc, d0, d1, d2, l, e1, hb, e2⟩ := allocR_ok c0
    obtain ⟨_, _, ho⟩ := ck_ok hc
    have hu := ho u List.mem_cons_self
    have hub := okU_bnd hu
    have hm0 := hu.min0
    obtain ⟨q, rfl⟩ : ∃ q, l = [q] := by
      have := hb.len
      match l, this with
      | [q], _ => exact ⟨q, rfl⟩
    have hq : q = d := by have := hb.sum; simpa [sumL] using this
    subst hq
    have hr := hb.ok
    simp [allR, inR] at hr
    have hp := partF_bnd u.f2 q hub.2.2.1 d0
    have e3 : sumP [u] [q] = partF u.f2 q := by simp [sumP]
    rw [e2, e3]
    simp only [if_true]
    have s1 : sm q := by unfold sm; omega
    have s2 : sm (partF u.f2 q) := by unfold sm; omega
    simp only [from_s s1, Option.bind_some]
    refine (step_cost_f hub.1 d0 hr.2).bind ?_
    simp only [if_true, from_s s2, Option.bind_some]
    have e4 : frac_Equal.f (zS (partF u.f2 q)) (zW (partF u.f2 q)) false [] (zS (partF u.f2 q)) (zW (partF u.f2 q)) false [] = some true := by
      unfold frac_Equal.f
      rw [cmp_s s2 s2, if_pos rfl]
      rfl
    simp only [e4, Option.bind_some, if_true, if_pos (show q ≥ u.f1 by omega)]
    refine (max_f u.f0 u.f1 u.f2 u.f3 u.f4 u.f5 u.f6 u.f7 u.f8).bind ?_
    rw [hub.2.2.2.2.2]
    exact Evs.const (congrArg some (decide_eq_true hr.2))
  · obtain ⟨e1, e2⟩ := allocR_err c0
    rw [e2]
    simp only [if_neg c0]
    refine (check_f u.f0 u.f1 u.f2 u.f3 u.f4 u.f5 u.f6 u.f7 u.f8 6).bind ?_
    by_cases c1 : checkF u.f0 u.f1 u.f2 u.f3 u.f4 u.f5 u.f6 u.f7 u.f8 6 = 0
    · simp only [if_pos c1]
      have hu : OkU u := okU_of c1
      have hub := okU_bnd hu
      have hm0 := hu.min0
      have hc : ckF [u] [true] = 0 := by
        have : ckU u = 0 := c1
        simp [ckF, chk, this]
      by_cases c2 : d < u.f1
      · simp only [if_pos c2]; exact Evs.const rfl
      · simp only [if_neg c2]
        refine (max_f u.f0 u.f1 u.f2 u.f3 u.f4 u.f5 u.f6 u.f7 u.f8).bind ?_
        rw [hub.2.2.2.2.2]
        refine Evs.const (congrArg some (decide_eq_true ?_))
        refine Decidable.byContradiction fun hn => c0 ?_
        exact alloc_is hc (by omega) (by simp [leastF]; omega) (by simp [mostF]; omega)
    · simp only [if_neg c1]; exact Evs.const rfl
theorem EnergySingleUnit_law (u : S24) (a1 : Int) (_ : wfU u) (h : -9223372036854775808 ≤ a1 ∧ a1 ≤ 9223372036854775807) : ∃ k, pylonlaw28_EnergySingleUnit.f k u.f0 u.f1 u.f2 u.f3 u.f4 u.f5 u.f6 u.f7 u.f8 a1 = some true := (single_plain u a1 h).some
end Go.Proofs.Ytelklgdmhnkenaa.U

namespace Go.Proofs.Ytelklgdmhnkenaa.energySingleUnit
open Go.ChangeShapes Go.WideShapes Go.ChangeAt Go.RowKit Go.Proofs.Ytelklgdmhnkenaa.U Go.Proofs.YtelklgdmhnkenaaW.PrintWords Go.Proofs.YtelklgdmhnkenaaW.PrintLast Go.Proofs.YtelklgdmhnkenaaW.PrintMore
theorem own : ownKnob Try.prog.godebug = none := by kernel_rfl
theorem laidOut : laidOutB Try.prog = true := by kernel_rfl
set_option maxHeartbeats 2000000 in
set_option maxRecDepth 100000 in
theorem lifted (os : Os) (started : os.Started) (H : Type) (enc : TypeId × Value → H) :
  ReturnsInHanded {} Try.checked os 15 .any (Rows.energySingleUnitSpec.pre6 enc Try.prog Try.f15 Rows.energySingleUnitRow.domain false) (Rows.energySingleUnitSpec.post enc Try.prog Try.f15 false true false false) := by
 refine returnsInHanded_of_change_sized (C := Try.checked) own started m_13 Try.func15
  (ChangeSpec.witness6 (enc := enc) (C := Try.checked) false ⟨#[], #[.agg #[.int .i64 0, .int .i64 0, .slice none 0 0, .int .i64 0, .int .i64 0, .int .i64 0, .int .i64 0, .int .i64 0, .int .i64 0], .int .i64 0], []⟩ 8 m_13 m_13 m_13 m_13) ?_
 intro W base args ds gs before hval0 hW hcnd hsz0 _
 have hval : ∀ (j : Nat) t v, Try.f15.params[j]? = some t → args[j]? = some v → Value.okWide Try.prog W .any base t v := hval0
 have hW' := hW
 obtain ⟨p, q, hA0, hV, rfl, hfz, hnd⟩ := hW
 have hA : DataW.TrodAll enc Try.prog W 0 (fun _ => true) true Try.f15.params.toList args.toList ds p := hA0
 rw [Try.params15] at hA hval
 obtain ⟨v0, vs0, d0, ds0, p0, q0, hargs, rfl, rfl, h0, r0⟩ := trodAll_cons hA
 obtain ⟨v1, vs1, d1, ds1, p1, q1, rfl, rfl, rfl, h1, r1⟩ := trodAll_cons r0
 obtain ⟨rfl, rfl, rfl⟩ := trodAll_nil r1
 obtain rfl : args = #[v0, v1] := by cases args; simp_all
 obtain ⟨rfl, rfl⟩ := trodVars_none hV
 have k0 := h0
 have lt0 : ∀ x ∈ p0, x.block < W.heap.size := by obtain ⟨m, hm⟩ := k0; exact DataW.trod_lt m _ _ _ hm
 obtain ⟨u0, A0, c0, e0, hc0, hC0, hq0⟩ := arg_unit (hval 0 24 v0 rfl rfl) h0
 subst e0
 obtain ⟨a1, rfl, rfl, rfl, w1⟩ := open_int (k := .i64) m_13 (hval 1 2 v1 rfl rfl) h1
 clear hA0 hval0 hsz0
 obtain ⟨k, hk⟩ := EnergySingleUnit_law u0 a1 hq0 (bounds_i64 w1)
 refine (pylonlaw28_EnergySingleUnit.calls k u0.f0 u0.f1 (fun k_ => k_ < W.heap.size) A0 c0 u0.f2 u0.f3 u0.f4 u0.f5 u0.f6 u0.f7 u0.f8 a1 true W (Kd.V_mk hc0 (Kd.F_below (Kd.C_F k99_heap hC0) (Below.refl _ _))) hk).mono fun e W' ⟨he, bel⟩ => ?_
 subst he
 exact ⟨_, rfl, _, _, _, [], _, [], hW', trodAll_mk1 (shut_bool m_13 _), (trodAll_cons_mk (Below.trod laidOut m_13 (of_decide_eq_true m_13) k0 bel lt0) (trodAll_cons_mk (shut_int m_13 w1) trodAll_mk0)), rfl, bel.frame _, fun h => by cases h⟩
theorem over : Rows.energySingleUnitRow.holds Try.pinned (OpenSpec.ofChange Rows.energySingleUnitSpec) :=
 OpenClaim.holds_of_wide 15 Try.f15 rfl rfl rfl rfl rfl rfl rfl ⟨rfl, rfl, rfl, rfl, rfl⟩ rfl rfl rfl rfl rfl m_13 Try.func15 m_13
  (of_decide_eq_true m_13) m_80
  (fun os started H enc _ => lifted os started H enc)
end Go.Proofs.Ytelklgdmhnkenaa.energySingleUnit
namespace Go.Proofs.Ytelklgdmhnkenaa
theorem energySingleUnit_holds : Rows.EnergySingleUnitSaid := energySingleUnit.over
#print axioms energySingleUnit_holds
end Go.Proofs.Ytelklgdmhnkenaa
