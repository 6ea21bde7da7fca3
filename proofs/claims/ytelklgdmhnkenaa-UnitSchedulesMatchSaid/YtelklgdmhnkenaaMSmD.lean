/- The law pylon/pylonlaw26.UnitSchedulesMatch as the row says it: for every input that can be read the call returns true, and the arguments read afterwards as before. No condition. (With parts of the proof: Uxf25, Uxf28, Uxf41, GivenC, Uxf3, OpenA, Uxf21, PlainB, PlainG, Uxf26, PlainH, PlainR, LawUnitSchedulesMatch.) -/
import Derived.Test.YtelklgdmhnkenaaMSmA
import Derived.Test.YtelklgdmhnkenaaMSmC
import Derived.Test.YtelklgdmhnkenaaMSmB
import Derived.Deep.Slices
import Derived.Deep.Fields
import Derived.ProofKit
import Derived.OpenShut
import Derived.ChangeOld
import Derived.SizedLaws
import Derived.Test.YtelklgdmhnkenaaRows
import Derived.WalkKit
import Derived.Below
/- Lean functions with the answers of Go functions, and proofs that the calls come to these answers (lines by a program of this session, wip/patch_print.py, over the kit's print tool). -/
namespace Go.Proofs.Ytelklgdmhnkenaa.U
open Go.RowKit Go.Proofs.YtelklgdmhnkenaaW.PrintWords Go.Proofs.YtelklgdmhnkenaaW.PrintLast Go.Proofs.YtelklgdmhnkenaaW.PrintMore
attribute [local go_sem] max2_int min2_int max_two min_two max_three min_three max_four min_four   -- for this text's walks alone
set_option linter.unusedVariables false
set_option linter.unusedSimpArgs false

/-! ### unit_Starts: function 25 -/
def unit_Starts.l0 : Nat → Int → Bool → List Bool → Int → Int → Option (Int)
  | 0, _, _, _, _, _ => none
  | k + 1, x5, x6, x15, x16, x17 => if x17 < x16 then (if 0 ≤ x17 then (if x17 < (x15.length : Int) then (if rdOf false x15 x17 = true then (if x6 = true then (unit_Starts.l0 k x5 (rdOf false x15 x17) x15 x16 (wrap64 (x17 + 1))) else (unit_Starts.l0 k (wrap64 (x5 + 1)) (rdOf false x15 x17) x15 x16 (wrap64 (x17 + 1)))) else (unit_Starts.l0 k x5 (rdOf false x15 x17) x15 x16 (wrap64 (x17 + 1)))) else (none)) else (none)) else (some x5)
def unit_Starts.f (k : Nat) (a0_0 : Int) (a0_1 : Int) (l0_2 : List (S99)) (a0_3 : Int) (a0_4 : Int) (a0_5 : Int) (a0_6 : Int) (a0_7 : Int) (a0_8 : Int) (l1 : List Bool) : Option (Int) := (unit_may.f k a0_0 a0_1 l0_2 a0_3 a0_4 a0_5 a0_6 a0_7 a0_8).bind fun t147 => (if t147 = true then (unit_Starts.l0 k 0 (decide (a0_8 > 0)) l1 (l1.length : Int) 0) else (some 0))
set_option maxHeartbeats 8000000 in
set_option maxRecDepth 100000 in
theorem unit_Starts.calls (k : Nat) (a0_0 : Int) (a0_1 : Int) (A0_2 : Option Addr) (c0_2 : Nat) (l0_2 : List (S99)) (a0_3 : Int) (a0_4 : Int) (a0_5 : Int) (a0_6 : Int) (a0_7 : Int) (a0_8 : Int) (A1 : Option Addr) (c1 : Nat) (l1 : List Bool) (r : Int) (w : World) (hr0_2 : Kd.C k99 w A0_2 l0_2.length l0_2) (hc0_2 : l0_2.length ≤ c0_2) (hr1 : Kd.C Kd.bool w A1 l1.length l1) (hc1 : l1.length ≤ c1) (h : unit_Starts.f k a0_0 a0_1 l0_2 a0_3 a0_4 a0_5 a0_6 a0_7 a0_8 l1 = some r) :
    Calls Try.prog 25 #[.agg #[.int .i64 a0_0, .int .i64 a0_1, .slice A0_2 l0_2.length c0_2, .int .i64 a0_3, .int .i64 a0_4, .int .i64 a0_5, .int .i64 a0_6, .int .i64 a0_7, .int .i64 a0_8], .slice A1 l1.length c1] w fun e w' => e = .returned (.int .i64 r) ∧ Below w.heap.size w w' := by
  have hu24 := Try.underlying24
  have HR0_2 := Aside0.mk hr0_2
  have HC0_2 := Aside0.mk hc0_2
  clear hr0_2 hc0_2
  have HR1 := Aside0.mk hr1
  have HC1 := Aside0.mk hc1
  clear hr1 hc1
  have HB := Aside0.mk (Below.refl w.heap.size w)
  have H : ((unit_may.f k a0_0 a0_1 l0_2 a0_3 a0_4 a0_5 a0_6 a0_7 a0_8).bind fun t147 => (if t147 = true then (unit_Starts.l0 k 0 (decide (a0_8 > 0)) l1 (l1.length : Int) 0) else (some 0))) = some r := h
  clear h
  replace H := Option.bind_eq_some_iff.mp H
  obtain ⟨t147, A30, H⟩ := H
  replace H : (if t147 = true then (unit_Starts.l0 k 0 (decide (a0_8 > 0)) l1 (l1.length : Int) 0) else (some 0)) = some r := H
  have A3 := Aside0.mk A30
  clear A30
  by_cases c4 : t147 = true
  · subst c4
    have H1 : (unit_Starts.l0 k 0 (decide (a0_8 > 0)) l1 (l1.length : Int) 0) = some r := by rw [if_pos rfl] at H; exact H
    clear H
    have H := H1
    clear H1
    have H' := Aside0.mk H
    clear H
    go_enter Try.func25, Try.ntmps25
    go_wp2_with (first | ((with_reducible refine gate_dst (N := 2) rfl ?_); refine box_event ?hg (N := 2) ?hd (cs := #[.int .i64 a0_0, .int .i64 a0_1, .slice A0_2 l0_2.length c0_2, .int .i64 a0_3, .int .i64 a0_4, .int .i64 a0_5, .int .i64 a0_6, .int .i64 a0_7, .int .i64 a0_8]) (t := 24) ?hr ?_; (case hd => rfl); (case hg => rfl); (case hr => first | (go_simp; done) | (go_simp; rfl)); intro gb146 hg w5 hbox hb; have n0_ := Aside0.mk (below_step (by repeat (first | (with_reducible first | exact HB.out | apply below_alloc | apply pw_below_drewN | apply below_drew1) | exact HB.out)) hb); have n1_ := Aside0.mk (hbox); have n2_ := Aside0.mk ((by rw [hg]; exact (below_size (by repeat (first | (with_reducible first | exact HB.out | apply below_alloc | apply pw_below_drewN | apply below_drew1) | exact HB.out))) : w.heap.size ≤ gb146)); have n3_ := Aside0.mk ((by rw [hg]; exact (below_size (by repeat (first | (with_reducible first | exact HB.out | apply below_alloc | apply pw_below_drewN | apply below_drew1) | exact HB.out))) : w.heap.size ≤ gb146)); clear HB; have HB := n0_; have BK146 := n1_; have GW146 := n2_; have GE146 := n3_; clear n0_ n1_ n2_ n3_; clear hb hbox hg; have hcz6_0 : w5.cell? ⟨gb146, 0, none⟩ = some (.int .i64 a0_0) := (blk_cell BK146.out 0).trans rfl; have hcz6_1 : w5.cell? ⟨gb146, 1, none⟩ = some (.int .i64 a0_1) := (blk_cell BK146.out 1).trans rfl; have hcz6_2 : w5.cell? ⟨gb146, 2, none⟩ = some (.slice A0_2 l0_2.length c0_2) := (blk_cell BK146.out 2).trans rfl; have hcz6_3 : w5.cell? ⟨gb146, 3, none⟩ = some (.int .i64 a0_3) := (blk_cell BK146.out 3).trans rfl; have hcz6_4 : w5.cell? ⟨gb146, 4, none⟩ = some (.int .i64 a0_4) := (blk_cell BK146.out 4).trans rfl; have hcz6_5 : w5.cell? ⟨gb146, 5, none⟩ = some (.int .i64 a0_5) := (blk_cell BK146.out 5).trans rfl; have hcz6_6 : w5.cell? ⟨gb146, 6, none⟩ = some (.int .i64 a0_6) := (blk_cell BK146.out 6).trans rfl; have hcz6_7 : w5.cell? ⟨gb146, 7, none⟩ = some (.int .i64 a0_7) := (blk_cell BK146.out 7).trans rfl; have hcz6_8 : w5.cell? ⟨gb146, 8, none⟩ = some (.int .i64 a0_8) := (blk_cell BK146.out 8).trans rfl; have hfz6_0 := blk_frozen BK146.out 0; have hfz6_1 := blk_frozen BK146.out 1; have hfz6_2 := blk_frozen BK146.out 2; have hfz6_3 := blk_frozen BK146.out 3; have hfz6_4 := blk_frozen BK146.out 4; have hfz6_5 := blk_frozen BK146.out 5; have hfz6_6 := blk_frozen BK146.out 6; have hfz6_7 := blk_frozen BK146.out 7; have hfz6_8 := blk_frozen BK146.out 8) | (go_at_call 49; (with_reducible refine (unit_may.calls k a0_0 a0_1 _ _ l0_2 a0_3 a0_4 a0_5 a0_6 a0_7 a0_8 true _ ?side1 ?side2 A3.out).mono ?_); (case side1 => repeat (first | exact (Kd.C_below HR0_2.out HB.out) | (with_reducible refine Kd.C_alloc ?_ _) | (with_reducible refine Kd.C_drewN ?_ _) | (with_reducible refine Kd.C_drew ?_))); (case side2 => exact HC0_2.out); rintro e w7 ⟨rfl, hb⟩; have n0_ := Aside0.mk (blk_below (g := gb146) (o := .cells #[.int .i64 a0_0, .int .i64 a0_1, .slice A0_2 l0_2.length c0_2, .int .i64 a0_3, .int .i64 a0_4, .int .i64 a0_5, .int .i64 a0_6, .int .i64 a0_7, .int .i64 a0_8] 24 (0, 0)) (by (with_reducible repeat (first | refine blk_drewN ?_ _ | refine blk_drew ?_ | refine blk_alloc ?_ _)); exact BK146.out) hb); have n1_ := Aside0.mk (below_step (by repeat (first | (with_reducible first | exact HB.out | apply below_alloc | apply pw_below_drewN | apply below_drew1 | refine below_set ?_ GE146.out) | exact HB.out)) hb); clear BK146; clear HB; have BK146 := n0_; have HB := n1_; clear n0_ n1_; (try clear hb); (try clear hb2); (try clear hk); (try clear hi); have hcz8_0 : w7.cell? ⟨gb146, 0, none⟩ = some (.int .i64 a0_0) := (blk_cell BK146.out 0).trans rfl; have hcz8_1 : w7.cell? ⟨gb146, 1, none⟩ = some (.int .i64 a0_1) := (blk_cell BK146.out 1).trans rfl; have hcz8_2 : w7.cell? ⟨gb146, 2, none⟩ = some (.slice A0_2 l0_2.length c0_2) := (blk_cell BK146.out 2).trans rfl; have hcz8_3 : w7.cell? ⟨gb146, 3, none⟩ = some (.int .i64 a0_3) := (blk_cell BK146.out 3).trans rfl; have hcz8_4 : w7.cell? ⟨gb146, 4, none⟩ = some (.int .i64 a0_4) := (blk_cell BK146.out 4).trans rfl; have hcz8_5 : w7.cell? ⟨gb146, 5, none⟩ = some (.int .i64 a0_5) := (blk_cell BK146.out 5).trans rfl; have hcz8_6 : w7.cell? ⟨gb146, 6, none⟩ = some (.int .i64 a0_6) := (blk_cell BK146.out 6).trans rfl; have hcz8_7 : w7.cell? ⟨gb146, 7, none⟩ = some (.int .i64 a0_7) := (blk_cell BK146.out 7).trans rfl; have hcz8_8 : w7.cell? ⟨gb146, 8, none⟩ = some (.int .i64 a0_8) := (blk_cell BK146.out 8).trans rfl; have hfz8_0 := blk_frozen BK146.out 0; have hfz8_1 := blk_frozen BK146.out 1; have hfz8_2 := blk_frozen BK146.out 2; have hfz8_3 := blk_frozen BK146.out 3; have hfz8_4 := blk_frozen BK146.out 4; have hfz8_5 := blk_frozen BK146.out 5; have hfz8_6 := blk_frozen BK146.out 6; have hfz8_7 := blk_frozen BK146.out 7; have hfz8_8 := blk_frozen BK146.out 8))
    repeat (go_quiet (first | ((with_reducible refine gate_dst (N := 2) rfl ?_); refine box_event ?hg (N := 2) ?hd (cs := #[.int .i64 a0_0, .int .i64 a0_1, .slice A0_2 l0_2.length c0_2, .int .i64 a0_3, .int .i64 a0_4, .int .i64 a0_5, .int .i64 a0_6, .int .i64 a0_7, .int .i64 a0_8]) (t := 24) ?hr ?_; (case hd => rfl); (case hg => rfl); (case hr => first | (go_simp; done) | (go_simp; rfl)); intro gb146 hg w5 hbox hb; have n0_ := Aside0.mk (below_step (by repeat (first | (with_reducible first | exact HB.out | apply below_alloc | apply pw_below_drewN | apply below_drew1) | exact HB.out)) hb); have n1_ := Aside0.mk (hbox); have n2_ := Aside0.mk ((by rw [hg]; exact (below_size (by repeat (first | (with_reducible first | exact HB.out | apply below_alloc | apply pw_below_drewN | apply below_drew1) | exact HB.out))) : w.heap.size ≤ gb146)); have n3_ := Aside0.mk ((by rw [hg]; exact (below_size (by repeat (first | (with_reducible first | exact HB.out | apply below_alloc | apply pw_below_drewN | apply below_drew1) | exact HB.out))) : w.heap.size ≤ gb146)); clear HB; have HB := n0_; have BK146 := n1_; have GW146 := n2_; have GE146 := n3_; clear n0_ n1_ n2_ n3_; clear hb hbox hg; have hcz6_0 : w5.cell? ⟨gb146, 0, none⟩ = some (.int .i64 a0_0) := (blk_cell BK146.out 0).trans rfl; have hcz6_1 : w5.cell? ⟨gb146, 1, none⟩ = some (.int .i64 a0_1) := (blk_cell BK146.out 1).trans rfl; have hcz6_2 : w5.cell? ⟨gb146, 2, none⟩ = some (.slice A0_2 l0_2.length c0_2) := (blk_cell BK146.out 2).trans rfl; have hcz6_3 : w5.cell? ⟨gb146, 3, none⟩ = some (.int .i64 a0_3) := (blk_cell BK146.out 3).trans rfl; have hcz6_4 : w5.cell? ⟨gb146, 4, none⟩ = some (.int .i64 a0_4) := (blk_cell BK146.out 4).trans rfl; have hcz6_5 : w5.cell? ⟨gb146, 5, none⟩ = some (.int .i64 a0_5) := (blk_cell BK146.out 5).trans rfl; have hcz6_6 : w5.cell? ⟨gb146, 6, none⟩ = some (.int .i64 a0_6) := (blk_cell BK146.out 6).trans rfl; have hcz6_7 : w5.cell? ⟨gb146, 7, none⟩ = some (.int .i64 a0_7) := (blk_cell BK146.out 7).trans rfl; have hcz6_8 : w5.cell? ⟨gb146, 8, none⟩ = some (.int .i64 a0_8) := (blk_cell BK146.out 8).trans rfl; have hfz6_0 := blk_frozen BK146.out 0; have hfz6_1 := blk_frozen BK146.out 1; have hfz6_2 := blk_frozen BK146.out 2; have hfz6_3 := blk_frozen BK146.out 3; have hfz6_4 := blk_frozen BK146.out 4; have hfz6_5 := blk_frozen BK146.out 5; have hfz6_6 := blk_frozen BK146.out 6; have hfz6_7 := blk_frozen BK146.out 7; have hfz6_8 := blk_frozen BK146.out 8) | (go_at_call 49; (with_reducible refine (unit_may.calls k a0_0 a0_1 _ _ l0_2 a0_3 a0_4 a0_5 a0_6 a0_7 a0_8 true _ ?side1 ?side2 A3.out).mono ?_); (case side1 => repeat (first | exact (Kd.C_below HR0_2.out HB.out) | (with_reducible refine Kd.C_alloc ?_ _) | (with_reducible refine Kd.C_drewN ?_ _) | (with_reducible refine Kd.C_drew ?_))); (case side2 => exact HC0_2.out); rintro e w7 ⟨rfl, hb⟩; have n0_ := Aside0.mk (blk_below (g := gb146) (o := .cells #[.int .i64 a0_0, .int .i64 a0_1, .slice A0_2 l0_2.length c0_2, .int .i64 a0_3, .int .i64 a0_4, .int .i64 a0_5, .int .i64 a0_6, .int .i64 a0_7, .int .i64 a0_8] 24 (0, 0)) (by (with_reducible repeat (first | refine blk_drewN ?_ _ | refine blk_drew ?_ | refine blk_alloc ?_ _)); exact BK146.out) hb); have n1_ := Aside0.mk (below_step (by repeat (first | (with_reducible first | exact HB.out | apply below_alloc | apply pw_below_drewN | apply below_drew1 | refine below_set ?_ GE146.out) | exact HB.out)) hb); clear BK146; clear HB; have BK146 := n0_; have HB := n1_; clear n0_ n1_; (try clear hb); (try clear hb2); (try clear hk); (try clear hi); have hcz8_0 : w7.cell? ⟨gb146, 0, none⟩ = some (.int .i64 a0_0) := (blk_cell BK146.out 0).trans rfl; have hcz8_1 : w7.cell? ⟨gb146, 1, none⟩ = some (.int .i64 a0_1) := (blk_cell BK146.out 1).trans rfl; have hcz8_2 : w7.cell? ⟨gb146, 2, none⟩ = some (.slice A0_2 l0_2.length c0_2) := (blk_cell BK146.out 2).trans rfl; have hcz8_3 : w7.cell? ⟨gb146, 3, none⟩ = some (.int .i64 a0_3) := (blk_cell BK146.out 3).trans rfl; have hcz8_4 : w7.cell? ⟨gb146, 4, none⟩ = some (.int .i64 a0_4) := (blk_cell BK146.out 4).trans rfl; have hcz8_5 : w7.cell? ⟨gb146, 5, none⟩ = some (.int .i64 a0_5) := (blk_cell BK146.out 5).trans rfl; have hcz8_6 : w7.cell? ⟨gb146, 6, none⟩ = some (.int .i64 a0_6) := (blk_cell BK146.out 6).trans rfl; have hcz8_7 : w7.cell? ⟨gb146, 7, none⟩ = some (.int .i64 a0_7) := (blk_cell BK146.out 7).trans rfl; have hcz8_8 : w7.cell? ⟨gb146, 8, none⟩ = some (.int .i64 a0_8) := (blk_cell BK146.out 8).trans rfl; have hfz8_0 := blk_frozen BK146.out 0; have hfz8_1 := blk_frozen BK146.out 1; have hfz8_2 := blk_frozen BK146.out 2; have hfz8_3 := blk_frozen BK146.out 3; have hfz8_4 := blk_frozen BK146.out 4; have hfz8_5 := blk_frozen BK146.out 5; have hfz8_6 := blk_frozen BK146.out 6; have hfz8_7 := blk_frozen BK146.out 7; have hfz8_8 := blk_frozen BK146.out 8)); try go_wp2_with (first | ((with_reducible refine gate_dst (N := 2) rfl ?_); refine box_event ?hg (N := 2) ?hd (cs := #[.int .i64 a0_0, .int .i64 a0_1, .slice A0_2 l0_2.length c0_2, .int .i64 a0_3, .int .i64 a0_4, .int .i64 a0_5, .int .i64 a0_6, .int .i64 a0_7, .int .i64 a0_8]) (t := 24) ?hr ?_; (case hd => rfl); (case hg => rfl); (case hr => first | (go_simp; done) | (go_simp; rfl)); intro gb146 hg w5 hbox hb; have n0_ := Aside0.mk (below_step (by repeat (first | (with_reducible first | exact HB.out | apply below_alloc | apply pw_below_drewN | apply below_drew1) | exact HB.out)) hb); have n1_ := Aside0.mk (hbox); have n2_ := Aside0.mk ((by rw [hg]; exact (below_size (by repeat (first | (with_reducible first | exact HB.out | apply below_alloc | apply pw_below_drewN | apply below_drew1) | exact HB.out))) : w.heap.size ≤ gb146)); have n3_ := Aside0.mk ((by rw [hg]; exact (below_size (by repeat (first | (with_reducible first | exact HB.out | apply below_alloc | apply pw_below_drewN | apply below_drew1) | exact HB.out))) : w.heap.size ≤ gb146)); clear HB; have HB := n0_; have BK146 := n1_; have GW146 := n2_; have GE146 := n3_; clear n0_ n1_ n2_ n3_; clear hb hbox hg; have hcz6_0 : w5.cell? ⟨gb146, 0, none⟩ = some (.int .i64 a0_0) := (blk_cell BK146.out 0).trans rfl; have hcz6_1 : w5.cell? ⟨gb146, 1, none⟩ = some (.int .i64 a0_1) := (blk_cell BK146.out 1).trans rfl; have hcz6_2 : w5.cell? ⟨gb146, 2, none⟩ = some (.slice A0_2 l0_2.length c0_2) := (blk_cell BK146.out 2).trans rfl; have hcz6_3 : w5.cell? ⟨gb146, 3, none⟩ = some (.int .i64 a0_3) := (blk_cell BK146.out 3).trans rfl; have hcz6_4 : w5.cell? ⟨gb146, 4, none⟩ = some (.int .i64 a0_4) := (blk_cell BK146.out 4).trans rfl; have hcz6_5 : w5.cell? ⟨gb146, 5, none⟩ = some (.int .i64 a0_5) := (blk_cell BK146.out 5).trans rfl; have hcz6_6 : w5.cell? ⟨gb146, 6, none⟩ = some (.int .i64 a0_6) := (blk_cell BK146.out 6).trans rfl; have hcz6_7 : w5.cell? ⟨gb146, 7, none⟩ = some (.int .i64 a0_7) := (blk_cell BK146.out 7).trans rfl; have hcz6_8 : w5.cell? ⟨gb146, 8, none⟩ = some (.int .i64 a0_8) := (blk_cell BK146.out 8).trans rfl; have hfz6_0 := blk_frozen BK146.out 0; have hfz6_1 := blk_frozen BK146.out 1; have hfz6_2 := blk_frozen BK146.out 2; have hfz6_3 := blk_frozen BK146.out 3; have hfz6_4 := blk_frozen BK146.out 4; have hfz6_5 := blk_frozen BK146.out 5; have hfz6_6 := blk_frozen BK146.out 6; have hfz6_7 := blk_frozen BK146.out 7; have hfz6_8 := blk_frozen BK146.out 8) | (go_at_call 49; (with_reducible refine (unit_may.calls k a0_0 a0_1 _ _ l0_2 a0_3 a0_4 a0_5 a0_6 a0_7 a0_8 true _ ?side1 ?side2 A3.out).mono ?_); (case side1 => repeat (first | exact (Kd.C_below HR0_2.out HB.out) | (with_reducible refine Kd.C_alloc ?_ _) | (with_reducible refine Kd.C_drewN ?_ _) | (with_reducible refine Kd.C_drew ?_))); (case side2 => exact HC0_2.out); rintro e w7 ⟨rfl, hb⟩; have n0_ := Aside0.mk (blk_below (g := gb146) (o := .cells #[.int .i64 a0_0, .int .i64 a0_1, .slice A0_2 l0_2.length c0_2, .int .i64 a0_3, .int .i64 a0_4, .int .i64 a0_5, .int .i64 a0_6, .int .i64 a0_7, .int .i64 a0_8] 24 (0, 0)) (by (with_reducible repeat (first | refine blk_drewN ?_ _ | refine blk_drew ?_ | refine blk_alloc ?_ _)); exact BK146.out) hb); have n1_ := Aside0.mk (below_step (by repeat (first | (with_reducible first | exact HB.out | apply below_alloc | apply pw_below_drewN | apply below_drew1 | refine below_set ?_ GE146.out) | exact HB.out)) hb); clear BK146; clear HB; have BK146 := n0_; have HB := n1_; clear n0_ n1_; (try clear hb); (try clear hb2); (try clear hk); (try clear hi); have hcz8_0 : w7.cell? ⟨gb146, 0, none⟩ = some (.int .i64 a0_0) := (blk_cell BK146.out 0).trans rfl; have hcz8_1 : w7.cell? ⟨gb146, 1, none⟩ = some (.int .i64 a0_1) := (blk_cell BK146.out 1).trans rfl; have hcz8_2 : w7.cell? ⟨gb146, 2, none⟩ = some (.slice A0_2 l0_2.length c0_2) := (blk_cell BK146.out 2).trans rfl; have hcz8_3 : w7.cell? ⟨gb146, 3, none⟩ = some (.int .i64 a0_3) := (blk_cell BK146.out 3).trans rfl; have hcz8_4 : w7.cell? ⟨gb146, 4, none⟩ = some (.int .i64 a0_4) := (blk_cell BK146.out 4).trans rfl; have hcz8_5 : w7.cell? ⟨gb146, 5, none⟩ = some (.int .i64 a0_5) := (blk_cell BK146.out 5).trans rfl; have hcz8_6 : w7.cell? ⟨gb146, 6, none⟩ = some (.int .i64 a0_6) := (blk_cell BK146.out 6).trans rfl; have hcz8_7 : w7.cell? ⟨gb146, 7, none⟩ = some (.int .i64 a0_7) := (blk_cell BK146.out 7).trans rfl; have hcz8_8 : w7.cell? ⟨gb146, 8, none⟩ = some (.int .i64 a0_8) := (blk_cell BK146.out 8).trans rfl; have hfz8_0 := blk_frozen BK146.out 0; have hfz8_1 := blk_frozen BK146.out 1; have hfz8_2 := blk_frozen BK146.out 2; have hfz8_3 := blk_frozen BK146.out 3; have hfz8_4 := blk_frozen BK146.out 4; have hfz8_5 := blk_frozen BK146.out 5; have hfz8_6 := blk_frozen BK146.out 6; have hfz8_7 := blk_frozen BK146.out 7; have hfz8_8 := blk_frozen BK146.out 8)))
    go_loopg [5, 6, 17] k (fun kq v5 v6 v17 w' => ∃ (x5_1 : Int) (x6_1 : Bool) (x17_1 : Int), v5 = .int .i64 x5_1 ∧ v6 = .bool x6_1 ∧ v17 = .int .i64 x17_1 ∧ Aside0 (unit_Starts.l0 kq x5_1 x6_1 l1 (l1.length : Int) x17_1 = some r) ∧ Aside0 (kq ≤ k) ∧ Aside0 (w'.heap[gb146]? = some (.cells #[.int .i64 a0_0, .int .i64 a0_1, (.slice A0_2 l0_2.length c0_2), .int .i64 a0_3, .int .i64 a0_4, .int .i64 a0_5, .int .i64 a0_6, .int .i64 a0_7, .int .i64 a0_8] 24 (0, 0))) ∧ Aside0 (Below w.heap.size w w'))
    case atStart => exact ⟨(0), (decide (a0_8 > 0)), (0), (by first | rfl | (simp; done) | (simp [*]; done)), (by first | rfl | (simp; done) | (simp [*]; done)), (by first | rfl | (simp; done) | (simp [*]; done)), H', ⟨Nat.le_refl _⟩, ⟨by (with_reducible repeat (first | refine blk_drewN ?_ _ | refine blk_drew ?_ | refine blk_alloc ?_ _)); exact BK146.out⟩, ⟨by repeat (first | (with_reducible first | exact HB.out | apply below_alloc | apply pw_below_drewN | apply below_drew1 | refine below_set ?_ GE146.out) | exact HB.out)⟩⟩
    case round =>
      clear H'
      try clear c1; try clear c2; try clear p2; try clear c4; try clear hcz6_0; try clear hcz6_1; try clear hcz6_2; try clear hcz6_3; try clear hcz6_4; try clear hcz6_5; try clear hcz6_6; try clear hcz6_7; try clear hcz6_8; try clear hcz8_0; try clear hcz8_1; try clear hcz8_2; try clear hcz8_3; try clear hcz8_4; try clear hcz8_5; try clear hcz8_6; try clear hcz8_7; try clear hcz8_8; try clear hfz6_0; try clear hfz6_1; try clear hfz6_2; try clear hfz6_3; try clear hfz6_4; try clear hfz6_5; try clear hfz6_6; try clear hfz6_7; try clear hfz6_8; try clear hfz8_0; try clear hfz8_1; try clear hfz8_2; try clear hfz8_3; try clear hfz8_4; try clear hfz8_5; try clear hfz8_6; try clear hfz8_7; try clear hfz8_8
      obtain ⟨x5_1, x6_1, x17_1, rfl, rfl, rfl, HA, HK1, BK146, HB⟩ := hrel
      cases gk with
      | zero => exact absurd HA.out (by simp [unit_Starts.l0])
      | succ k1 =>
        have H := HA.out
        clear HA
        simp only [unit_Starts.l0] at H
        by_cases c9 : x17_1 < (l1.length : Int)
        · rw [if_pos c9] at H
          have c9b0 : decide (x17_1 < (l1.length : Int)) = true := decide_eq_true c9
          clear c9
          by_cases c10 : 0 ≤ x17_1
          · rw [if_pos c10] at H
            have c10b0 : decide (0 ≤ x17_1) = true := decide_eq_true c10
            clear c10
            by_cases c11 : x17_1 < (l1.length : Int)
            · rw [if_pos c11] at H
              have c11b0 : decide (x17_1 < (l1.length : Int)) = true := decide_eq_true c11
              clear c11
              obtain ⟨bq12, hbq12⟩ : ∃ b_ : Bool, b_ = (rdOf false l1 x17_1) := ⟨_, rfl⟩
              replace H : (if bq12 = true then (if x6_1 = true then (unit_Starts.l0 k1 x5_1 bq12 l1 (l1.length : Int) (wrap64 (x17_1 + 1))) else (unit_Starts.l0 k1 (wrap64 (x5_1 + 1)) bq12 l1 (l1.length : Int) (wrap64 (x17_1 + 1)))) else (unit_Starts.l0 k1 x5_1 bq12 l1 (l1.length : Int) (wrap64 (x17_1 + 1)))) = some r := by rw [← hbq12] at H; exact H
              have Nbq12 := Aside0.mk hbq12
              clear hbq12
              by_cases c13 : bq12 = true
              · subst c13
                have H1 : (if x6_1 = true then (unit_Starts.l0 k1 x5_1 true l1 (l1.length : Int) (wrap64 (x17_1 + 1))) else (unit_Starts.l0 k1 (wrap64 (x5_1 + 1)) true l1 (l1.length : Int) (wrap64 (x17_1 + 1)))) = some r := by rw [if_pos rfl] at H; exact H
                clear H
                have H := H1
                clear H1
                by_cases c14 : x6_1 = true
                · subst c14
                  have H1 : (unit_Starts.l0 k1 x5_1 true l1 (l1.length : Int) (wrap64 (x17_1 + 1))) = some r := by rw [if_pos rfl] at H; exact H
                  clear H
                  have H := H1
                  clear H1
                  have H' := Aside0.mk H
                  clear H
                  have p148 : 0 ≤ (x17_1 : Int) := of_decide_eq_true (by first | (with_reducible assumption) | assumption)
                  have q148 : x17_1 < (l1.length : Int) := of_decide_eq_true (by first | (with_reducible assumption) | assumption)
                  obtain ⟨ad148, e148, hx148_0⟩ := Kd.at_bool HR1.out x17_1 p148 q148
                  (try rw [← Nbq12.out] at hx148_0)
                  cases e148
                  replace hx148_0 := (HB.out.cell (World.block_lt_of_cell? w _ hx148_0)).trans hx148_0
                  replace p148 := eq_true p148
                  replace q148 := eq_true q148
                  go_wp2
                  repeat (go_quiet (fail); try go_wp2)
                  go_roundg k1
                  case measure => have := HK1.out; omega
                  case rel => exact ⟨(x5_1), (true), (wrap64 (x17_1 + 1)), (by first | rfl | (simp; done) | (simp [*]; done)), (by first | rfl | (simp; done) | (simp [*]; done)), (by first | rfl | (simp; done) | (simp [*]; done)), H', ⟨by have := HK1.out; omega⟩, ⟨by (with_reducible repeat (first | refine blk_drewN ?_ _ | refine blk_drew ?_ | refine blk_alloc ?_ _)); exact BK146.out⟩, ⟨by repeat (first | (with_reducible first | exact HB.out | apply below_alloc | apply pw_below_drewN | apply below_drew1 | refine below_set ?_ GE146.out) | exact HB.out)⟩⟩
                replace c14 := Bool.eq_false_iff.mpr c14
                subst c14
                have H1 : (unit_Starts.l0 k1 (wrap64 (x5_1 + 1)) true l1 (l1.length : Int) (wrap64 (x17_1 + 1))) = some r := by rw [if_neg (show ¬ (false = true) by decide)] at H; exact H
                clear H
                have H := H1
                clear H1
                have H' := Aside0.mk H
                clear H
                have p148 : 0 ≤ (x17_1 : Int) := of_decide_eq_true (by first | (with_reducible assumption) | assumption)
                have q148 : x17_1 < (l1.length : Int) := of_decide_eq_true (by first | (with_reducible assumption) | assumption)
                obtain ⟨ad148, e148, hx148_0⟩ := Kd.at_bool HR1.out x17_1 p148 q148
                (try rw [← Nbq12.out] at hx148_0)
                cases e148
                replace hx148_0 := (HB.out.cell (World.block_lt_of_cell? w _ hx148_0)).trans hx148_0
                replace p148 := eq_true p148
                replace q148 := eq_true q148
                go_wp2
                repeat (go_quiet (fail); try go_wp2)
                go_roundg k1
                case measure => have := HK1.out; omega
                case rel => exact ⟨(wrap64 (x5_1 + 1)), (true), (wrap64 (x17_1 + 1)), (by first | rfl | (simp; done) | (simp [*]; done)), (by first | rfl | (simp; done) | (simp [*]; done)), (by first | rfl | (simp; done) | (simp [*]; done)), H', ⟨by have := HK1.out; omega⟩, ⟨by (with_reducible repeat (first | refine blk_drewN ?_ _ | refine blk_drew ?_ | refine blk_alloc ?_ _)); exact BK146.out⟩, ⟨by repeat (first | (with_reducible first | exact HB.out | apply below_alloc | apply pw_below_drewN | apply below_drew1 | refine below_set ?_ GE146.out) | exact HB.out)⟩⟩
              replace c13 := Bool.eq_false_iff.mpr c13
              subst c13
              have H1 : (unit_Starts.l0 k1 x5_1 false l1 (l1.length : Int) (wrap64 (x17_1 + 1))) = some r := by rw [if_neg (show ¬ (false = true) by decide)] at H; exact H
              clear H
              have H := H1
              clear H1
              have H' := Aside0.mk H
              clear H
              have p148 : 0 ≤ (x17_1 : Int) := of_decide_eq_true (by first | (with_reducible assumption) | assumption)
              have q148 : x17_1 < (l1.length : Int) := of_decide_eq_true (by first | (with_reducible assumption) | assumption)
              obtain ⟨ad148, e148, hx148_0⟩ := Kd.at_bool HR1.out x17_1 p148 q148
              (try rw [← Nbq12.out] at hx148_0)
              cases e148
              replace hx148_0 := (HB.out.cell (World.block_lt_of_cell? w _ hx148_0)).trans hx148_0
              replace p148 := eq_true p148
              replace q148 := eq_true q148
              go_wp2
              repeat (go_quiet (fail); try go_wp2)
              go_roundg k1
              case measure => have := HK1.out; omega
              case rel => exact ⟨(x5_1), (false), (wrap64 (x17_1 + 1)), (by first | rfl | (simp; done) | (simp [*]; done)), (by first | rfl | (simp; done) | (simp [*]; done)), (by first | rfl | (simp; done) | (simp [*]; done)), H', ⟨by have := HK1.out; omega⟩, ⟨by (with_reducible repeat (first | refine blk_drewN ?_ _ | refine blk_drew ?_ | refine blk_alloc ?_ _)); exact BK146.out⟩, ⟨by repeat (first | (with_reducible first | exact HB.out | apply below_alloc | apply pw_below_drewN | apply below_drew1 | refine below_set ?_ GE146.out) | exact HB.out)⟩⟩
            rw [if_neg c11] at H
            exact absurd H (by simp)
          rw [if_neg c10] at H
          exact absurd H (by simp)
        rw [if_neg c9] at H
        have c9b0 : decide (x17_1 < (l1.length : Int)) = false := decide_eq_false c9
        clear c9
        obtain rfl := Option.some.inj H
        go_wp2
        repeat (go_quiet (fail); try go_wp2)
        go_ret
        exact ⟨by first | rfl | (simp [errW_none, errW_some] <;> rfl) | (simp [*, errW_none, errW_some] <;> rfl), by repeat (first | (with_reducible first | exact HB.out | apply below_alloc | apply pw_below_drewN | apply below_drew1 | refine below_set ?_ GE146.out) | exact HB.out)⟩
  replace c4 := Bool.eq_false_iff.mpr c4
  subst c4
  have H1 : (some 0) = some r := by rw [if_neg (show ¬ (false = true) by decide)] at H; exact H
  clear H
  have H := H1
  clear H1
  obtain rfl := Option.some.inj H
  go_enter Try.func25, Try.ntmps25
  go_wp2_with (first | ((with_reducible refine gate_dst (N := 2) rfl ?_); refine box_event ?hg (N := 2) ?hd (cs := #[.int .i64 a0_0, .int .i64 a0_1, .slice A0_2 l0_2.length c0_2, .int .i64 a0_3, .int .i64 a0_4, .int .i64 a0_5, .int .i64 a0_6, .int .i64 a0_7, .int .i64 a0_8]) (t := 24) ?hr ?_; (case hd => rfl); (case hg => rfl); (case hr => first | (go_simp; done) | (go_simp; rfl)); intro gb146 hg w15 hbox hb; have n0_ := Aside0.mk (below_step (by repeat (first | (with_reducible first | exact HB.out | apply below_alloc | apply pw_below_drewN | apply below_drew1) | exact HB.out)) hb); have n1_ := Aside0.mk (hbox); have n2_ := Aside0.mk ((by rw [hg]; exact (below_size (by repeat (first | (with_reducible first | exact HB.out | apply below_alloc | apply pw_below_drewN | apply below_drew1) | exact HB.out))) : w.heap.size ≤ gb146)); have n3_ := Aside0.mk ((by rw [hg]; exact (below_size (by repeat (first | (with_reducible first | exact HB.out | apply below_alloc | apply pw_below_drewN | apply below_drew1) | exact HB.out))) : w.heap.size ≤ gb146)); clear HB; have HB := n0_; have BK146 := n1_; have GW146 := n2_; have GE146 := n3_; clear n0_ n1_ n2_ n3_; clear hb hbox hg; have hcz16_0 : w15.cell? ⟨gb146, 0, none⟩ = some (.int .i64 a0_0) := (blk_cell BK146.out 0).trans rfl; have hcz16_1 : w15.cell? ⟨gb146, 1, none⟩ = some (.int .i64 a0_1) := (blk_cell BK146.out 1).trans rfl; have hcz16_2 : w15.cell? ⟨gb146, 2, none⟩ = some (.slice A0_2 l0_2.length c0_2) := (blk_cell BK146.out 2).trans rfl; have hcz16_3 : w15.cell? ⟨gb146, 3, none⟩ = some (.int .i64 a0_3) := (blk_cell BK146.out 3).trans rfl; have hcz16_4 : w15.cell? ⟨gb146, 4, none⟩ = some (.int .i64 a0_4) := (blk_cell BK146.out 4).trans rfl; have hcz16_5 : w15.cell? ⟨gb146, 5, none⟩ = some (.int .i64 a0_5) := (blk_cell BK146.out 5).trans rfl; have hcz16_6 : w15.cell? ⟨gb146, 6, none⟩ = some (.int .i64 a0_6) := (blk_cell BK146.out 6).trans rfl; have hcz16_7 : w15.cell? ⟨gb146, 7, none⟩ = some (.int .i64 a0_7) := (blk_cell BK146.out 7).trans rfl; have hcz16_8 : w15.cell? ⟨gb146, 8, none⟩ = some (.int .i64 a0_8) := (blk_cell BK146.out 8).trans rfl; have hfz16_0 := blk_frozen BK146.out 0; have hfz16_1 := blk_frozen BK146.out 1; have hfz16_2 := blk_frozen BK146.out 2; have hfz16_3 := blk_frozen BK146.out 3; have hfz16_4 := blk_frozen BK146.out 4; have hfz16_5 := blk_frozen BK146.out 5; have hfz16_6 := blk_frozen BK146.out 6; have hfz16_7 := blk_frozen BK146.out 7; have hfz16_8 := blk_frozen BK146.out 8) | (go_at_call 49; (with_reducible refine (unit_may.calls k a0_0 a0_1 _ _ l0_2 a0_3 a0_4 a0_5 a0_6 a0_7 a0_8 false _ ?side1 ?side2 A3.out).mono ?_); (case side1 => repeat (first | exact (Kd.C_below HR0_2.out HB.out) | (with_reducible refine Kd.C_alloc ?_ _) | (with_reducible refine Kd.C_drewN ?_ _) | (with_reducible refine Kd.C_drew ?_))); (case side2 => exact HC0_2.out); rintro e w17 ⟨rfl, hb⟩; have n0_ := Aside0.mk (blk_below (g := gb146) (o := .cells #[.int .i64 a0_0, .int .i64 a0_1, .slice A0_2 l0_2.length c0_2, .int .i64 a0_3, .int .i64 a0_4, .int .i64 a0_5, .int .i64 a0_6, .int .i64 a0_7, .int .i64 a0_8] 24 (0, 0)) (by (with_reducible repeat (first | refine blk_drewN ?_ _ | refine blk_drew ?_ | refine blk_alloc ?_ _)); exact BK146.out) hb); have n1_ := Aside0.mk (below_step (by repeat (first | (with_reducible first | exact HB.out | apply below_alloc | apply pw_below_drewN | apply below_drew1 | refine below_set ?_ GE146.out) | exact HB.out)) hb); clear BK146; clear HB; have BK146 := n0_; have HB := n1_; clear n0_ n1_; (try clear hb); (try clear hb2); (try clear hk); (try clear hi)))
  repeat (go_quiet (first | ((with_reducible refine gate_dst (N := 2) rfl ?_); refine box_event ?hg (N := 2) ?hd (cs := #[.int .i64 a0_0, .int .i64 a0_1, .slice A0_2 l0_2.length c0_2, .int .i64 a0_3, .int .i64 a0_4, .int .i64 a0_5, .int .i64 a0_6, .int .i64 a0_7, .int .i64 a0_8]) (t := 24) ?hr ?_; (case hd => rfl); (case hg => rfl); (case hr => first | (go_simp; done) | (go_simp; rfl)); intro gb146 hg w15 hbox hb; have n0_ := Aside0.mk (below_step (by repeat (first | (with_reducible first | exact HB.out | apply below_alloc | apply pw_below_drewN | apply below_drew1) | exact HB.out)) hb); have n1_ := Aside0.mk (hbox); have n2_ := Aside0.mk ((by rw [hg]; exact (below_size (by repeat (first | (with_reducible first | exact HB.out | apply below_alloc | apply pw_below_drewN | apply below_drew1) | exact HB.out))) : w.heap.size ≤ gb146)); have n3_ := Aside0.mk ((by rw [hg]; exact (below_size (by repeat (first | (with_reducible first | exact HB.out | apply below_alloc | apply pw_below_drewN | apply below_drew1) | exact HB.out))) : w.heap.size ≤ gb146)); clear HB; have HB := n0_; have BK146 := n1_; have GW146 := n2_; have GE146 := n3_; clear n0_ n1_ n2_ n3_; clear hb hbox hg; have hcz16_0 : w15.cell? ⟨gb146, 0, none⟩ = some (.int .i64 a0_0) := (blk_cell BK146.out 0).trans rfl; have hcz16_1 : w15.cell? ⟨gb146, 1, none⟩ = some (.int .i64 a0_1) := (blk_cell BK146.out 1).trans rfl; have hcz16_2 : w15.cell? ⟨gb146, 2, none⟩ = some (.slice A0_2 l0_2.length c0_2) := (blk_cell BK146.out 2).trans rfl; have hcz16_3 : w15.cell? ⟨gb146, 3, none⟩ = some (.int .i64 a0_3) := (blk_cell BK146.out 3).trans rfl; have hcz16_4 : w15.cell? ⟨gb146, 4, none⟩ = some (.int .i64 a0_4) := (blk_cell BK146.out 4).trans rfl; have hcz16_5 : w15.cell? ⟨gb146, 5, none⟩ = some (.int .i64 a0_5) := (blk_cell BK146.out 5).trans rfl; have hcz16_6 : w15.cell? ⟨gb146, 6, none⟩ = some (.int .i64 a0_6) := (blk_cell BK146.out 6).trans rfl; have hcz16_7 : w15.cell? ⟨gb146, 7, none⟩ = some (.int .i64 a0_7) := (blk_cell BK146.out 7).trans rfl; have hcz16_8 : w15.cell? ⟨gb146, 8, none⟩ = some (.int .i64 a0_8) := (blk_cell BK146.out 8).trans rfl; have hfz16_0 := blk_frozen BK146.out 0; have hfz16_1 := blk_frozen BK146.out 1; have hfz16_2 := blk_frozen BK146.out 2; have hfz16_3 := blk_frozen BK146.out 3; have hfz16_4 := blk_frozen BK146.out 4; have hfz16_5 := blk_frozen BK146.out 5; have hfz16_6 := blk_frozen BK146.out 6; have hfz16_7 := blk_frozen BK146.out 7; have hfz16_8 := blk_frozen BK146.out 8) | (go_at_call 49; (with_reducible refine (unit_may.calls k a0_0 a0_1 _ _ l0_2 a0_3 a0_4 a0_5 a0_6 a0_7 a0_8 false _ ?side1 ?side2 A3.out).mono ?_); (case side1 => repeat (first | exact (Kd.C_below HR0_2.out HB.out) | (with_reducible refine Kd.C_alloc ?_ _) | (with_reducible refine Kd.C_drewN ?_ _) | (with_reducible refine Kd.C_drew ?_))); (case side2 => exact HC0_2.out); rintro e w17 ⟨rfl, hb⟩; have n0_ := Aside0.mk (blk_below (g := gb146) (o := .cells #[.int .i64 a0_0, .int .i64 a0_1, .slice A0_2 l0_2.length c0_2, .int .i64 a0_3, .int .i64 a0_4, .int .i64 a0_5, .int .i64 a0_6, .int .i64 a0_7, .int .i64 a0_8] 24 (0, 0)) (by (with_reducible repeat (first | refine blk_drewN ?_ _ | refine blk_drew ?_ | refine blk_alloc ?_ _)); exact BK146.out) hb); have n1_ := Aside0.mk (below_step (by repeat (first | (with_reducible first | exact HB.out | apply below_alloc | apply pw_below_drewN | apply below_drew1 | refine below_set ?_ GE146.out) | exact HB.out)) hb); clear BK146; clear HB; have BK146 := n0_; have HB := n1_; clear n0_ n1_; (try clear hb); (try clear hb2); (try clear hk); (try clear hi))); try go_wp2_with (first | ((with_reducible refine gate_dst (N := 2) rfl ?_); refine box_event ?hg (N := 2) ?hd (cs := #[.int .i64 a0_0, .int .i64 a0_1, .slice A0_2 l0_2.length c0_2, .int .i64 a0_3, .int .i64 a0_4, .int .i64 a0_5, .int .i64 a0_6, .int .i64 a0_7, .int .i64 a0_8]) (t := 24) ?hr ?_; (case hd => rfl); (case hg => rfl); (case hr => first | (go_simp; done) | (go_simp; rfl)); intro gb146 hg w15 hbox hb; have n0_ := Aside0.mk (below_step (by repeat (first | (with_reducible first | exact HB.out | apply below_alloc | apply pw_below_drewN | apply below_drew1) | exact HB.out)) hb); have n1_ := Aside0.mk (hbox); have n2_ := Aside0.mk ((by rw [hg]; exact (below_size (by repeat (first | (with_reducible first | exact HB.out | apply below_alloc | apply pw_below_drewN | apply below_drew1) | exact HB.out))) : w.heap.size ≤ gb146)); have n3_ := Aside0.mk ((by rw [hg]; exact (below_size (by repeat (first | (with_reducible first | exact HB.out | apply below_alloc | apply pw_below_drewN | apply below_drew1) | exact HB.out))) : w.heap.size ≤ gb146)); clear HB; have HB := n0_; have BK146 := n1_; have GW146 := n2_; have GE146 := n3_; clear n0_ n1_ n2_ n3_; clear hb hbox hg; have hcz16_0 : w15.cell? ⟨gb146, 0, none⟩ = some (.int .i64 a0_0) := (blk_cell BK146.out 0).trans rfl; have hcz16_1 : w15.cell? ⟨gb146, 1, none⟩ = some (.int .i64 a0_1) := (blk_cell BK146.out 1).trans rfl; have hcz16_2 : w15.cell? ⟨gb146, 2, none⟩ = some (.slice A0_2 l0_2.length c0_2) := (blk_cell BK146.out 2).trans rfl; have hcz16_3 : w15.cell? ⟨gb146, 3, none⟩ = some (.int .i64 a0_3) := (blk_cell BK146.out 3).trans rfl; have hcz16_4 : w15.cell? ⟨gb146, 4, none⟩ = some (.int .i64 a0_4) := (blk_cell BK146.out 4).trans rfl; have hcz16_5 : w15.cell? ⟨gb146, 5, none⟩ = some (.int .i64 a0_5) := (blk_cell BK146.out 5).trans rfl; have hcz16_6 : w15.cell? ⟨gb146, 6, none⟩ = some (.int .i64 a0_6) := (blk_cell BK146.out 6).trans rfl; have hcz16_7 : w15.cell? ⟨gb146, 7, none⟩ = some (.int .i64 a0_7) := (blk_cell BK146.out 7).trans rfl; have hcz16_8 : w15.cell? ⟨gb146, 8, none⟩ = some (.int .i64 a0_8) := (blk_cell BK146.out 8).trans rfl; have hfz16_0 := blk_frozen BK146.out 0; have hfz16_1 := blk_frozen BK146.out 1; have hfz16_2 := blk_frozen BK146.out 2; have hfz16_3 := blk_frozen BK146.out 3; have hfz16_4 := blk_frozen BK146.out 4; have hfz16_5 := blk_frozen BK146.out 5; have hfz16_6 := blk_frozen BK146.out 6; have hfz16_7 := blk_frozen BK146.out 7; have hfz16_8 := blk_frozen BK146.out 8) | (go_at_call 49; (with_reducible refine (unit_may.calls k a0_0 a0_1 _ _ l0_2 a0_3 a0_4 a0_5 a0_6 a0_7 a0_8 false _ ?side1 ?side2 A3.out).mono ?_); (case side1 => repeat (first | exact (Kd.C_below HR0_2.out HB.out) | (with_reducible refine Kd.C_alloc ?_ _) | (with_reducible refine Kd.C_drewN ?_ _) | (with_reducible refine Kd.C_drew ?_))); (case side2 => exact HC0_2.out); rintro e w17 ⟨rfl, hb⟩; have n0_ := Aside0.mk (blk_below (g := gb146) (o := .cells #[.int .i64 a0_0, .int .i64 a0_1, .slice A0_2 l0_2.length c0_2, .int .i64 a0_3, .int .i64 a0_4, .int .i64 a0_5, .int .i64 a0_6, .int .i64 a0_7, .int .i64 a0_8] 24 (0, 0)) (by (with_reducible repeat (first | refine blk_drewN ?_ _ | refine blk_drew ?_ | refine blk_alloc ?_ _)); exact BK146.out) hb); have n1_ := Aside0.mk (below_step (by repeat (first | (with_reducible first | exact HB.out | apply below_alloc | apply pw_below_drewN | apply below_drew1 | refine below_set ?_ GE146.out) | exact HB.out)) hb); clear BK146; clear HB; have BK146 := n0_; have HB := n1_; clear n0_ n1_; (try clear hb); (try clear hb2); (try clear hk); (try clear hi))))
  go_ret
  exact ⟨by first | rfl | (simp [errW_none, errW_some] <;> rfl) | (simp [*, errW_none, errW_some] <;> rfl), by repeat (first | (with_reducible first | exact HB.out | apply below_alloc | apply pw_below_drewN | apply below_drew1 | refine below_set ?_ GE146.out) | exact HB.out)⟩

end Go.Proofs.Ytelklgdmhnkenaa.U
/- Lean functions with the answers of Go functions, and proofs that the calls come to these answers (lines by a program of this session, wip/patch_print.py, over the kit's print tool). -/
namespace Go.Proofs.Ytelklgdmhnkenaa.U
open Go.RowKit Go.Proofs.YtelklgdmhnkenaaW.PrintWords Go.Proofs.YtelklgdmhnkenaaW.PrintLast Go.Proofs.YtelklgdmhnkenaaW.PrintMore
attribute [local go_sem] max2_int min2_int max_two min_two max_three min_three max_four min_four   -- for this text's walks alone
set_option linter.unusedVariables false
set_option linter.unusedSimpArgs false

/-! ### unit_FixedCost: function 28 -/
def unit_FixedCost.l0 : Nat → Int → List Bool → Int → Int → Int → Int → List (S99) → Int → Int → Int → Int → Int → Int → Option (Int)
  | 0, _, _, _, _, _, _, _, _, _, _, _, _, _ => none
  | k + 1, x5, x17, x18, x19, x150000, x150001, x150002, x150003, x150004, x150005, x150006, x150007, x150008 => if x19 < x18 then (if 0 ≤ x19 then (if x19 < (x17.length : Int) then (if rdOf false x17 x19 = true then (unit_FixedCost.l0 k (wrap64 (x5 + x150006)) x17 x18 (wrap64 (x19 + 1)) x150000 x150001 x150002 x150003 x150004 x150005 x150006 x150007 x150008) else (unit_FixedCost.l0 k x5 x17 x18 (wrap64 (x19 + 1)) x150000 x150001 x150002 x150003 x150004 x150005 x150006 x150007 x150008)) else (none)) else (none)) else (some x5)
def unit_FixedCost.f (k : Nat) (a0_0 : Int) (a0_1 : Int) (l0_2 : List (S99)) (a0_3 : Int) (a0_4 : Int) (a0_5 : Int) (a0_6 : Int) (a0_7 : Int) (a0_8 : Int) (l1 : List Bool) : Option (Int) := (unit_may.f k a0_0 a0_1 l0_2 a0_3 a0_4 a0_5 a0_6 a0_7 a0_8).bind fun t150 => (if t150 = true then ((unit_Starts.f k a0_0 a0_1 l0_2 a0_3 a0_4 a0_5 a0_6 a0_7 a0_8 l1).bind fun t151 => (unit_FixedCost.l0 k (wrap64 (t151 * a0_5)) l1 (l1.length : Int) 0 a0_0 a0_1 l0_2 a0_3 a0_4 a0_5 a0_6 a0_7 a0_8)) else (some 0))
set_option maxHeartbeats 8000000 in
set_option maxRecDepth 100000 in
theorem unit_FixedCost.calls (k : Nat) (a0_0 : Int) (a0_1 : Int) (A0_2 : Option Addr) (c0_2 : Nat) (l0_2 : List (S99)) (a0_3 : Int) (a0_4 : Int) (a0_5 : Int) (a0_6 : Int) (a0_7 : Int) (a0_8 : Int) (A1 : Option Addr) (c1 : Nat) (l1 : List Bool) (r : Int) (w : World) (hr0_2 : Kd.C k99 w A0_2 l0_2.length l0_2) (hc0_2 : l0_2.length ≤ c0_2) (hr1 : Kd.C Kd.bool w A1 l1.length l1) (hc1 : l1.length ≤ c1) (h : unit_FixedCost.f k a0_0 a0_1 l0_2 a0_3 a0_4 a0_5 a0_6 a0_7 a0_8 l1 = some r) :
    Calls Try.prog 28 #[.agg #[.int .i64 a0_0, .int .i64 a0_1, .slice A0_2 l0_2.length c0_2, .int .i64 a0_3, .int .i64 a0_4, .int .i64 a0_5, .int .i64 a0_6, .int .i64 a0_7, .int .i64 a0_8], .slice A1 l1.length c1] w fun e w' => e = .returned (.int .i64 r) ∧ Below w.heap.size w w' := by
  have hu24 := Try.underlying24
  have HR0_2 := Aside0.mk hr0_2
  have HC0_2 := Aside0.mk hc0_2
  clear hr0_2 hc0_2
  have HR1 := Aside0.mk hr1
  have HC1 := Aside0.mk hc1
  clear hr1 hc1
  have HB := Aside0.mk (Below.refl w.heap.size w)
  have H : ((unit_may.f k a0_0 a0_1 l0_2 a0_3 a0_4 a0_5 a0_6 a0_7 a0_8).bind fun t150 => (if t150 = true then ((unit_Starts.f k a0_0 a0_1 l0_2 a0_3 a0_4 a0_5 a0_6 a0_7 a0_8 l1).bind fun t151 => (unit_FixedCost.l0 k (wrap64 (t151 * a0_5)) l1 (l1.length : Int) 0 a0_0 a0_1 l0_2 a0_3 a0_4 a0_5 a0_6 a0_7 a0_8)) else (some 0))) = some r := h
  clear h
  replace H := Option.bind_eq_some_iff.mp H
  obtain ⟨t150, A30, H⟩ := H
  replace H : (if t150 = true then ((unit_Starts.f k a0_0 a0_1 l0_2 a0_3 a0_4 a0_5 a0_6 a0_7 a0_8 l1).bind fun t151 => (unit_FixedCost.l0 k (wrap64 (t151 * a0_5)) l1 (l1.length : Int) 0 a0_0 a0_1 l0_2 a0_3 a0_4 a0_5 a0_6 a0_7 a0_8)) else (some 0)) = some r := H
  have A3 := Aside0.mk A30
  clear A30
  by_cases c4 : t150 = true
  · subst c4
    have H1 : ((unit_Starts.f k a0_0 a0_1 l0_2 a0_3 a0_4 a0_5 a0_6 a0_7 a0_8 l1).bind fun t151 => (unit_FixedCost.l0 k (wrap64 (t151 * a0_5)) l1 (l1.length : Int) 0 a0_0 a0_1 l0_2 a0_3 a0_4 a0_5 a0_6 a0_7 a0_8)) = some r := by rw [if_pos rfl] at H; exact H
    clear H
    have H := H1
    clear H1
    replace H := Option.bind_eq_some_iff.mp H
    obtain ⟨t151, A50, H⟩ := H
    replace H : (unit_FixedCost.l0 k (wrap64 (t151 * a0_5)) l1 (l1.length : Int) 0 a0_0 a0_1 l0_2 a0_3 a0_4 a0_5 a0_6 a0_7 a0_8) = some r := H
    have A5 := Aside0.mk A50
    clear A50
    have H' := Aside0.mk H
    clear H
    go_enter Try.func28, Try.ntmps28
    try go_wp2_with (first | ((with_reducible refine gate_dst (N := 2) rfl ?_); refine box_event ?hg (N := 2) ?hd (cs := #[.int .i64 a0_0, .int .i64 a0_1, .slice A0_2 l0_2.length c0_2, .int .i64 a0_3, .int .i64 a0_4, .int .i64 a0_5, .int .i64 a0_6, .int .i64 a0_7, .int .i64 a0_8]) (t := 24) ?hr ?_; (case hd => rfl); (case hg => rfl); (case hr => first | (go_simp; done) | (go_simp; rfl)); intro gb149 hg w6 hbox hb; have n0_ := Aside0.mk (below_step (by repeat (first | (with_reducible first | exact HB.out | apply below_alloc | apply pw_below_drewN | apply below_drew1) | exact HB.out)) hb); have n1_ := Aside0.mk (hbox); have n2_ := Aside0.mk ((by rw [hg]; exact (below_size (by repeat (first | (with_reducible first | exact HB.out | apply below_alloc | apply pw_below_drewN | apply below_drew1) | exact HB.out))) : w.heap.size ≤ gb149)); have n3_ := Aside0.mk ((by rw [hg]; exact (below_size (by repeat (first | (with_reducible first | exact HB.out | apply below_alloc | apply pw_below_drewN | apply below_drew1) | exact HB.out))) : w.heap.size ≤ gb149)); clear HB; have HB := n0_; have BK149 := n1_; have GW149 := n2_; have GE149 := n3_; clear n0_ n1_ n2_ n3_; clear hb hbox hg; have hcz7_0 : w6.cell? ⟨gb149, 0, none⟩ = some (.int .i64 a0_0) := (blk_cell BK149.out 0).trans rfl; have hcz7_1 : w6.cell? ⟨gb149, 1, none⟩ = some (.int .i64 a0_1) := (blk_cell BK149.out 1).trans rfl; have hcz7_2 : w6.cell? ⟨gb149, 2, none⟩ = some (.slice A0_2 l0_2.length c0_2) := (blk_cell BK149.out 2).trans rfl; have hcz7_3 : w6.cell? ⟨gb149, 3, none⟩ = some (.int .i64 a0_3) := (blk_cell BK149.out 3).trans rfl; have hcz7_4 : w6.cell? ⟨gb149, 4, none⟩ = some (.int .i64 a0_4) := (blk_cell BK149.out 4).trans rfl; have hcz7_5 : w6.cell? ⟨gb149, 5, none⟩ = some (.int .i64 a0_5) := (blk_cell BK149.out 5).trans rfl; have hcz7_6 : w6.cell? ⟨gb149, 6, none⟩ = some (.int .i64 a0_6) := (blk_cell BK149.out 6).trans rfl; have hcz7_7 : w6.cell? ⟨gb149, 7, none⟩ = some (.int .i64 a0_7) := (blk_cell BK149.out 7).trans rfl; have hcz7_8 : w6.cell? ⟨gb149, 8, none⟩ = some (.int .i64 a0_8) := (blk_cell BK149.out 8).trans rfl; have hfz7_0 := blk_frozen BK149.out 0; have hfz7_1 := blk_frozen BK149.out 1; have hfz7_2 := blk_frozen BK149.out 2; have hfz7_3 := blk_frozen BK149.out 3; have hfz7_4 := blk_frozen BK149.out 4; have hfz7_5 := blk_frozen BK149.out 5; have hfz7_6 := blk_frozen BK149.out 6; have hfz7_7 := blk_frozen BK149.out 7; have hfz7_8 := blk_frozen BK149.out 8) | ((with_reducible refine gate_callee (f := 49) rfl ?_); refine goesL_ (some 9) rfl rfl Try.func49 (by kernel_rfl) rfl #[.agg #[.int .i64 a0_0, .int .i64 a0_1, .slice A0_2 l0_2.length c0_2, .int .i64 a0_3, .int .i64 a0_4, .int .i64 a0_5, .int .i64 a0_6, .int .i64 a0_7, .int .i64 a0_8]] rfl (by (try simp only [List.map_toArray, List.map_cons, List.map_nil]); first | done | rfl | (simp only [List.length_drop, List.length_take]; rfl)) ?_; (with_reducible refine (unit_may.calls k a0_0 a0_1 _ _ l0_2 a0_3 a0_4 a0_5 a0_6 a0_7 a0_8 true _ ?side1 ?side2 A3.out).mono ?_); (case side1 => repeat (first | exact (Kd.C_below HR0_2.out HB.out) | (with_reducible refine Kd.C_alloc ?_ _) | (with_reducible refine Kd.C_drewN ?_ _) | (with_reducible refine Kd.C_drew ?_))); (case side2 => exact HC0_2.out); rintro e w8 ⟨rfl, hb⟩; refine ⟨_, rfl, ?_⟩; have n0_ := Aside0.mk (blk_below (g := gb149) (o := .cells #[.int .i64 a0_0, .int .i64 a0_1, .slice A0_2 l0_2.length c0_2, .int .i64 a0_3, .int .i64 a0_4, .int .i64 a0_5, .int .i64 a0_6, .int .i64 a0_7, .int .i64 a0_8] 24 (0, 0)) (by (with_reducible repeat (first | refine blk_drewN ?_ _ | refine blk_drew ?_ | refine blk_alloc ?_ _)); exact BK149.out) hb); have n1_ := Aside0.mk (below_step (by repeat (first | (with_reducible first | exact HB.out | apply below_alloc | apply pw_below_drewN | apply below_drew1 | refine below_set ?_ GE149.out) | exact HB.out)) hb); clear BK149; clear HB; have BK149 := n0_; have HB := n1_; clear n0_ n1_; (try clear hb); (try clear hb2); (try clear hk); (try clear hi)))
    have n0_ := Aside0.mk (blk_drew BK149.out)
    have n1_ := Aside0.mk (below_drew1 HB.out)
    clear BK149
    clear HB
    have BK149 := n0_
    have HB := n1_
    clear n0_ n1_
    refine start_ (n := 7) (S := fun w' => w'.cell? ⟨gb149, 0, none⟩ = some (.int .i64 a0_0) ∧ w'.cell? ⟨gb149, 1, none⟩ = some (.int .i64 a0_1) ∧ w'.cell? ⟨gb149, 2, none⟩ = some (.slice A0_2 l0_2.length c0_2) ∧ w'.cell? ⟨gb149, 3, none⟩ = some (.int .i64 a0_3) ∧ w'.cell? ⟨gb149, 4, none⟩ = some (.int .i64 a0_4) ∧ w'.cell? ⟨gb149, 5, none⟩ = some (.int .i64 a0_5) ∧ w'.cell? ⟨gb149, 6, none⟩ = some (.int .i64 a0_6) ∧ w'.cell? ⟨gb149, 7, none⟩ = some (.int .i64 a0_7) ∧ w'.cell? ⟨gb149, 8, none⟩ = some (.int .i64 a0_8)) (ds := []) #[false, false, false, false, false, false, false] (by kernel_rfl) rfl rfl ⟨(blk_cell BK149.out 0).trans rfl, (blk_cell BK149.out 1).trans rfl, (blk_cell BK149.out 2).trans rfl, (blk_cell BK149.out 3).trans rfl, (blk_cell BK149.out 4).trans rfl, (blk_cell BK149.out 5).trans rfl, (blk_cell BK149.out 6).trans rfl, (blk_cell BK149.out 7).trans rfl, (blk_cell BK149.out 8).trans rfl⟩ (fun hHeld => ?_)
    generalize w8.drew = w9 at BK149 HB hHeld ⊢
    refine pure_ (i := 1) (N := some 12) (v := ?_) (a' := ?_) #[false, true, false, false, false, false, false] rfl rfl (by kernel_rfl) (fun _ _ _ h => h) (Or.inl ⟨by rfl, ?_⟩) ?_ ?_
    rotate_left
    · intro w'
      go_simp
      with_reducible rfl
    rotate_left
    · simp only [Act.put, List.setIfInBounds_toArray, List.set_cons_zero, List.set_cons_succ, i64_w, i32_w]
      rfl
    refine pure_ (i := 3) (N := some 14) (v := ?_) (a' := ?_) #[false, true, false, true, false, false, false] rfl rfl (by kernel_rfl) (fun _ _ _ h => h) (Or.inl ⟨by rfl, ?_⟩) ?_ ?_
    rotate_left
    · intro w'
      go_simp
      with_reducible rfl
    rotate_left
    · simp only [Act.put, List.setIfInBounds_toArray, List.set_cons_zero, List.set_cons_succ, i64_w, i32_w]
      rfl
    refine take_ (i := 0) (N := some 11) (v := ?_) (a' := ?_) #[true, true, false, true, false, false, false] rfl rfl (by kernel_rfl) (fun _ _ _ h => h) (Or.inl ⟨by rfl, ?_⟩) hHeld ?_ ?_
    rotate_left
    · rintro w' ⟨s0, s1, s2, s3, s4, s5, s6, s7, s8⟩
      go_simp
      with_reducible rfl
    rotate_left
    · simp only [Act.put, List.setIfInBounds_toArray, List.set_cons_zero, List.set_cons_succ, i64_w, i32_w]
      rfl
    refine take_ (i := 4) (N := some 15) (v := ?_) (a' := ?_) #[true, true, false, true, true, false, false] rfl rfl (by kernel_rfl) (fun _ _ _ h => h) (Or.inl ⟨by rfl, ?_⟩) hHeld ?_ ?_
    rotate_left
    · rintro w' ⟨s0, s1, s2, s3, s4, s5, s6, s7, s8⟩
      go_simp
      with_reducible rfl
    rotate_left
    · simp only [Act.put, List.setIfInBounds_toArray, List.set_cons_zero, List.set_cons_succ, i64_w, i32_w]
      rfl
    refine one_ (i := 2) (N := some 13) #[true, true, true, true, true, false, false] rfl rfl (by kernel_rfl) (by decide) (fun K hK => ?_)
    refine goes_ Try.func25 (by kernel_rfl) rfl #[.agg #[.int .i64 a0_0, .int .i64 a0_1, .slice A0_2 l0_2.length c0_2, .int .i64 a0_3, .int .i64 a0_4, .int .i64 a0_5, .int .i64 a0_6, .int .i64 a0_7, .int .i64 a0_8], .slice A1 l1.length c1] (by rfl) rfl rfl (by (try simp only [List.map_toArray, List.map_cons, List.map_nil]); first | done | rfl | (simp only [List.length_drop, List.length_take]; rfl)) ?_
    with_reducible refine (unit_Starts.calls k a0_0 a0_1 _ _ l0_2 a0_3 a0_4 a0_5 a0_6 a0_7 a0_8 _ _ l1 t151 _ ?side1 ?side2 ?side3 ?side4 A5.out).mono ?_
    (case side1 => repeat (first | exact (Kd.C_below HR0_2.out HB.out) | (with_reducible refine Kd.C_alloc ?_ _) | (with_reducible refine Kd.C_drewN ?_ _) | (with_reducible refine Kd.C_drew ?_)))
    (case side2 => exact HC0_2.out)
    (case side3 => repeat (first | exact (Kd.C_below HR1.out HB.out) | (with_reducible refine Kd.C_alloc ?_ _) | (with_reducible refine Kd.C_drewN ?_ _) | (with_reducible refine Kd.C_drew ?_)))
    (case side4 => exact HC1.out)
    rintro e w10 ⟨rfl, hb⟩
    refine ⟨_, rfl, ?_⟩
    have n0_ := Aside0.mk (blk_below (g := gb149) (o := .cells #[.int .i64 a0_0, .int .i64 a0_1, .slice A0_2 l0_2.length c0_2, .int .i64 a0_3, .int .i64 a0_4, .int .i64 a0_5, .int .i64 a0_6, .int .i64 a0_7, .int .i64 a0_8] 24 (0, 0)) (by (with_reducible repeat (first | refine blk_drewN ?_ _ | refine blk_drew ?_ | refine blk_alloc ?_ _)); exact BK149.out) hb)
    have n1_ := Aside0.mk (below_step (by repeat (first | (with_reducible first | exact HB.out | apply below_alloc | apply pw_below_drewN | apply below_drew1 | refine below_set ?_ GE149.out) | exact HB.out)) hb)
    clear BK149
    clear HB
    have BK149 := n0_
    have HB := n1_
    clear n0_ n1_
    (try clear hb)
    (try clear hb2)
    (try clear hk)
    (try clear hi)
    refine hK.out _ _ ⟨(blk_cell BK149.out 0).trans rfl, (blk_cell BK149.out 1).trans rfl, (blk_cell BK149.out 2).trans rfl, (blk_cell BK149.out 3).trans rfl, (blk_cell BK149.out 4).trans rfl, (blk_cell BK149.out 5).trans rfl, (blk_cell BK149.out 6).trans rfl, (blk_cell BK149.out 7).trans rfl, (blk_cell BK149.out 8).trans rfl⟩ (fun hHeld => ?_)
    clear hK K
    refine norm_ (a' := ?_) ?_ ?_
    rotate_left
    · show Act.put _ (some 13) _ = _
      simp only [Act.put, List.setIfInBounds_toArray, List.set_cons_zero, List.set_cons_succ, i64_w, i32_w]
      rfl
    refine pure_ (i := 5) (N := some 16) (v := ?_) (a' := ?_) #[true, true, true, true, true, true, false] rfl rfl (by kernel_rfl) (fun _ _ _ h => h) (Or.inl ⟨by rfl, ?_⟩) ?_ ?_
    rotate_left
    · intro w'
      go_simp
      with_reducible rfl
    rotate_left
    · simp only [Act.put, List.setIfInBounds_toArray, List.set_cons_zero, List.set_cons_succ, i64_w, i32_w]
      rfl
    refine pure_ (i := 6) (N := some 5) (v := ?_) (a' := ?_) #[true, true, true, true, true, true, true] rfl rfl (by kernel_rfl) (fun _ _ _ h => h) (Or.inl ⟨by rfl, ?_⟩) ?_ ?_
    rotate_left
    · intro w'
      go_simp
      with_reducible rfl
    rotate_left
    · simp only [Act.put, List.setIfInBounds_toArray, List.set_cons_zero, List.set_cons_succ, i64_w, i32_w]
      rfl
    refine done_ (by kernel_rfl) ?_
    try go_wp2
    go_loopg [5, 19] k (fun kq v5 v19 w' => ∃ (x5_1 : Int) (x19_1 : Int), v5 = .int .i64 x5_1 ∧ v19 = .int .i64 x19_1 ∧ Aside0 (unit_FixedCost.l0 kq x5_1 l1 (l1.length : Int) x19_1 a0_0 a0_1 l0_2 a0_3 a0_4 a0_5 a0_6 a0_7 a0_8 = some r) ∧ Aside0 (kq ≤ k) ∧ Aside0 (w'.heap[gb149]? = some (.cells #[.int .i64 a0_0, .int .i64 a0_1, (.slice A0_2 l0_2.length c0_2), .int .i64 a0_3, .int .i64 a0_4, .int .i64 a0_5, .int .i64 a0_6, .int .i64 a0_7, .int .i64 a0_8] 24 (0, 0))) ∧ Aside0 (Below w.heap.size w w'))
    case atStart => exact ⟨(wrap64 (t151 * a0_5)), (0), (by first | rfl | (simp; done) | (simp [*]; done)), (by first | rfl | (simp; done) | (simp [*]; done)), H', ⟨Nat.le_refl _⟩, ⟨by (with_reducible repeat (first | refine blk_drewN ?_ _ | refine blk_drew ?_ | refine blk_alloc ?_ _)); exact BK149.out⟩, ⟨by repeat (first | (with_reducible first | exact HB.out | apply below_alloc | apply pw_below_drewN | apply below_drew1 | refine below_set ?_ GE149.out) | exact HB.out)⟩⟩
    case round =>
      clear H'
      try clear c1; try clear c2; try clear p2; try clear c4; try clear p6; try clear hcz7_0; try clear hcz7_1; try clear hcz7_2; try clear hcz7_3; try clear hcz7_4; try clear hcz7_5; try clear hcz7_6; try clear hcz7_7; try clear hcz7_8; try clear hfz7_0; try clear hfz7_1; try clear hfz7_2; try clear hfz7_3; try clear hfz7_4; try clear hfz7_5; try clear hfz7_6; try clear hfz7_7; try clear hfz7_8
      obtain ⟨x5_1, x19_1, rfl, rfl, HA, HK1, BK149, HB⟩ := hrel
      cases gk with
      | zero => exact absurd HA.out (by simp [unit_FixedCost.l0])
      | succ k1 =>
        have H := HA.out
        clear HA
        simp only [unit_FixedCost.l0] at H
        by_cases c11 : x19_1 < (l1.length : Int)
        · rw [if_pos c11] at H
          have c11b0 : decide (x19_1 < (l1.length : Int)) = true := decide_eq_true c11
          clear c11
          by_cases c12 : 0 ≤ x19_1
          · rw [if_pos c12] at H
            have c12b0 : decide (0 ≤ x19_1) = true := decide_eq_true c12
            clear c12
            by_cases c13 : x19_1 < (l1.length : Int)
            · rw [if_pos c13] at H
              have c13b0 : decide (x19_1 < (l1.length : Int)) = true := decide_eq_true c13
              clear c13
              obtain ⟨bq14, hbq14⟩ : ∃ b_ : Bool, b_ = (rdOf false l1 x19_1) := ⟨_, rfl⟩
              replace H : (if bq14 = true then (unit_FixedCost.l0 k1 (wrap64 (x5_1 + a0_6)) l1 (l1.length : Int) (wrap64 (x19_1 + 1)) a0_0 a0_1 l0_2 a0_3 a0_4 a0_5 a0_6 a0_7 a0_8) else (unit_FixedCost.l0 k1 x5_1 l1 (l1.length : Int) (wrap64 (x19_1 + 1)) a0_0 a0_1 l0_2 a0_3 a0_4 a0_5 a0_6 a0_7 a0_8)) = some r := by rw [← hbq14] at H; exact H
              have Nbq14 := Aside0.mk hbq14
              clear hbq14
              by_cases c15 : bq14 = true
              · subst c15
                have H1 : (unit_FixedCost.l0 k1 (wrap64 (x5_1 + a0_6)) l1 (l1.length : Int) (wrap64 (x19_1 + 1)) a0_0 a0_1 l0_2 a0_3 a0_4 a0_5 a0_6 a0_7 a0_8) = some r := by rw [if_pos rfl] at H; exact H
                clear H
                have H := H1
                clear H1
                have H' := Aside0.mk H
                clear H
                have p152 : 0 ≤ (x19_1 : Int) := of_decide_eq_true (by first | (with_reducible assumption) | assumption)
                have q152 : x19_1 < (l1.length : Int) := of_decide_eq_true (by first | (with_reducible assumption) | assumption)
                obtain ⟨ad152, e152, hx152_0⟩ := Kd.at_bool HR1.out x19_1 p152 q152
                (try rw [← Nbq14.out] at hx152_0)
                cases e152
                replace hx152_0 := (HB.out.cell (World.block_lt_of_cell? w _ hx152_0)).trans hx152_0
                replace p152 := eq_true p152
                replace q152 := eq_true q152
                obtain ⟨hcz16_0, hcz16_1, hcz16_2, hcz16_3, hcz16_4, hcz16_5, hcz16_6, hcz16_7, hcz16_8⟩ := cells9 BK149.out
                obtain ⟨hfz16_0, hfz16_1, hfz16_2, hfz16_3, hfz16_4, hfz16_5, hfz16_6, hfz16_7, hfz16_8⟩ := froz9 BK149.out
                go_wp2
                go_roundg k1
                case measure => have := HK1.out; omega
                case rel => exact ⟨(wrap64 (x5_1 + a0_6)), (wrap64 (x19_1 + 1)), (by first | rfl | (simp; done) | (simp [*]; done)), (by first | rfl | (simp; done) | (simp [*]; done)), H', ⟨by have := HK1.out; omega⟩, ⟨by (with_reducible repeat (first | refine blk_drewN ?_ _ | refine blk_drew ?_ | refine blk_alloc ?_ _)); exact BK149.out⟩, ⟨by repeat (first | (with_reducible first | exact HB.out | apply below_alloc | apply pw_below_drewN | apply below_drew1 | refine below_set ?_ GE149.out) | exact HB.out)⟩⟩
              replace c15 := Bool.eq_false_iff.mpr c15
              subst c15
              have H1 : (unit_FixedCost.l0 k1 x5_1 l1 (l1.length : Int) (wrap64 (x19_1 + 1)) a0_0 a0_1 l0_2 a0_3 a0_4 a0_5 a0_6 a0_7 a0_8) = some r := by rw [if_neg (show ¬ (false = true) by decide)] at H; exact H
              clear H
              have H := H1
              clear H1
              have H' := Aside0.mk H
              clear H
              have p152 : 0 ≤ (x19_1 : Int) := of_decide_eq_true (by first | (with_reducible assumption) | assumption)
              have q152 : x19_1 < (l1.length : Int) := of_decide_eq_true (by first | (with_reducible assumption) | assumption)
              obtain ⟨ad152, e152, hx152_0⟩ := Kd.at_bool HR1.out x19_1 p152 q152
              (try rw [← Nbq14.out] at hx152_0)
              cases e152
              replace hx152_0 := (HB.out.cell (World.block_lt_of_cell? w _ hx152_0)).trans hx152_0
              replace p152 := eq_true p152
              replace q152 := eq_true q152
              go_wp2
              go_roundg k1
              case measure => have := HK1.out; omega
              case rel => exact ⟨(x5_1), (wrap64 (x19_1 + 1)), (by first | rfl | (simp; done) | (simp [*]; done)), (by first | rfl | (simp; done) | (simp [*]; done)), H', ⟨by have := HK1.out; omega⟩, ⟨by (with_reducible repeat (first | refine blk_drewN ?_ _ | refine blk_drew ?_ | refine blk_alloc ?_ _)); exact BK149.out⟩, ⟨by repeat (first | (with_reducible first | exact HB.out | apply below_alloc | apply pw_below_drewN | apply below_drew1 | refine below_set ?_ GE149.out) | exact HB.out)⟩⟩
            rw [if_neg c13] at H
            exact absurd H (by simp)
          rw [if_neg c12] at H
          exact absurd H (by simp)
        rw [if_neg c11] at H
        have c11b0 : decide (x19_1 < (l1.length : Int)) = false := decide_eq_false c11
        clear c11
        obtain rfl := Option.some.inj H
        go_wp2
        go_ret
        exact ⟨by first | rfl | (simp [errW_none, errW_some] <;> rfl) | (simp [*, errW_none, errW_some] <;> rfl), by repeat (first | (with_reducible first | exact HB.out | apply below_alloc | apply pw_below_drewN | apply below_drew1 | refine below_set ?_ GE149.out) | exact HB.out)⟩
  replace c4 := Bool.eq_false_iff.mpr c4
  subst c4
  have H1 : (some 0) = some r := by rw [if_neg (show ¬ (false = true) by decide)] at H; exact H
  clear H
  have H := H1
  clear H1
  obtain rfl := Option.some.inj H
  go_enter Try.func28, Try.ntmps28
  go_wp2_with (first | ((with_reducible refine gate_dst (N := 2) rfl ?_); refine box_event ?hg (N := 2) ?hd (cs := #[.int .i64 a0_0, .int .i64 a0_1, .slice A0_2 l0_2.length c0_2, .int .i64 a0_3, .int .i64 a0_4, .int .i64 a0_5, .int .i64 a0_6, .int .i64 a0_7, .int .i64 a0_8]) (t := 24) ?hr ?_; (case hd => rfl); (case hg => rfl); (case hr => first | (go_simp; done) | (go_simp; rfl)); intro gb149 hg w17 hbox hb; have n0_ := Aside0.mk (below_step (by repeat (first | (with_reducible first | exact HB.out | apply below_alloc | apply pw_below_drewN | apply below_drew1) | exact HB.out)) hb); have n1_ := Aside0.mk (hbox); have n2_ := Aside0.mk ((by rw [hg]; exact (below_size (by repeat (first | (with_reducible first | exact HB.out | apply below_alloc | apply pw_below_drewN | apply below_drew1) | exact HB.out))) : w.heap.size ≤ gb149)); have n3_ := Aside0.mk ((by rw [hg]; exact (below_size (by repeat (first | (with_reducible first | exact HB.out | apply below_alloc | apply pw_below_drewN | apply below_drew1) | exact HB.out))) : w.heap.size ≤ gb149)); clear HB; have HB := n0_; have BK149 := n1_; have GW149 := n2_; have GE149 := n3_; clear n0_ n1_ n2_ n3_; clear hb hbox hg; have hcz18_0 : w17.cell? ⟨gb149, 0, none⟩ = some (.int .i64 a0_0) := (blk_cell BK149.out 0).trans rfl; have hcz18_1 : w17.cell? ⟨gb149, 1, none⟩ = some (.int .i64 a0_1) := (blk_cell BK149.out 1).trans rfl; have hcz18_2 : w17.cell? ⟨gb149, 2, none⟩ = some (.slice A0_2 l0_2.length c0_2) := (blk_cell BK149.out 2).trans rfl; have hcz18_3 : w17.cell? ⟨gb149, 3, none⟩ = some (.int .i64 a0_3) := (blk_cell BK149.out 3).trans rfl; have hcz18_4 : w17.cell? ⟨gb149, 4, none⟩ = some (.int .i64 a0_4) := (blk_cell BK149.out 4).trans rfl; have hcz18_5 : w17.cell? ⟨gb149, 5, none⟩ = some (.int .i64 a0_5) := (blk_cell BK149.out 5).trans rfl; have hcz18_6 : w17.cell? ⟨gb149, 6, none⟩ = some (.int .i64 a0_6) := (blk_cell BK149.out 6).trans rfl; have hcz18_7 : w17.cell? ⟨gb149, 7, none⟩ = some (.int .i64 a0_7) := (blk_cell BK149.out 7).trans rfl; have hcz18_8 : w17.cell? ⟨gb149, 8, none⟩ = some (.int .i64 a0_8) := (blk_cell BK149.out 8).trans rfl; have hfz18_0 := blk_frozen BK149.out 0; have hfz18_1 := blk_frozen BK149.out 1; have hfz18_2 := blk_frozen BK149.out 2; have hfz18_3 := blk_frozen BK149.out 3; have hfz18_4 := blk_frozen BK149.out 4; have hfz18_5 := blk_frozen BK149.out 5; have hfz18_6 := blk_frozen BK149.out 6; have hfz18_7 := blk_frozen BK149.out 7; have hfz18_8 := blk_frozen BK149.out 8) | ((with_reducible refine gate_callee (f := 49) rfl ?_); refine goesL_ (some 9) rfl rfl Try.func49 (by kernel_rfl) rfl #[.agg #[.int .i64 a0_0, .int .i64 a0_1, .slice A0_2 l0_2.length c0_2, .int .i64 a0_3, .int .i64 a0_4, .int .i64 a0_5, .int .i64 a0_6, .int .i64 a0_7, .int .i64 a0_8]] rfl (by (try simp only [List.map_toArray, List.map_cons, List.map_nil]); first | done | rfl | (simp only [List.length_drop, List.length_take]; rfl)) ?_; (with_reducible refine (unit_may.calls k a0_0 a0_1 _ _ l0_2 a0_3 a0_4 a0_5 a0_6 a0_7 a0_8 false _ ?side1 ?side2 A3.out).mono ?_); (case side1 => repeat (first | exact (Kd.C_below HR0_2.out HB.out) | (with_reducible refine Kd.C_alloc ?_ _) | (with_reducible refine Kd.C_drewN ?_ _) | (with_reducible refine Kd.C_drew ?_))); (case side2 => exact HC0_2.out); rintro e w19 ⟨rfl, hb⟩; refine ⟨_, rfl, ?_⟩; have n0_ := Aside0.mk (blk_below (g := gb149) (o := .cells #[.int .i64 a0_0, .int .i64 a0_1, .slice A0_2 l0_2.length c0_2, .int .i64 a0_3, .int .i64 a0_4, .int .i64 a0_5, .int .i64 a0_6, .int .i64 a0_7, .int .i64 a0_8] 24 (0, 0)) (by (with_reducible repeat (first | refine blk_drewN ?_ _ | refine blk_drew ?_ | refine blk_alloc ?_ _)); exact BK149.out) hb); have n1_ := Aside0.mk (below_step (by repeat (first | (with_reducible first | exact HB.out | apply below_alloc | apply pw_below_drewN | apply below_drew1 | refine below_set ?_ GE149.out) | exact HB.out)) hb); clear BK149; clear HB; have BK149 := n0_; have HB := n1_; clear n0_ n1_; (try clear hb); (try clear hb2); (try clear hk); (try clear hi)))
  go_ret
  exact ⟨by first | rfl | (simp [errW_none, errW_some] <;> rfl) | (simp [*, errW_none, errW_some] <;> rfl), by repeat (first | (with_reducible first | exact HB.out | apply below_alloc | apply pw_below_drewN | apply below_drew1 | refine below_set ?_ GE149.out) | exact HB.out)⟩

end Go.Proofs.Ytelklgdmhnkenaa.U
/- Lean functions with the answers of Go functions, and proofs that the calls come to these answers (lines by a program of this session, wip/patch_print.py, over the kit's print tool). -/
namespace Go.Proofs.Ytelklgdmhnkenaa.U
open Go.RowKit Go.Proofs.YtelklgdmhnkenaaW.PrintWords Go.Proofs.YtelklgdmhnkenaaW.PrintLast Go.Proofs.YtelklgdmhnkenaaW.PrintMore
attribute [local go_sem] max2_int min2_int max_two min_two max_three min_three max_four min_four   -- for this text's walks alone
set_option linter.unusedVariables false
set_option linter.unusedSimpArgs false

/-! ### pylonlaw26_ex: function 41 -/
def pylonlaw26_ex.f  : Option (Int × Int × (List (S99)) × Int × Int × Int × Int × Int × Int) := some (0, 2, (([(⟨5, 1⟩ : S99), (⟨4, 3⟩ : S99)] : List (S99))), 2, 2, 5, 3, 0, (-1))
set_option maxHeartbeats 8000000 in
set_option maxRecDepth 100000 in
theorem pylonlaw26_ex.calls  (r1 : Int) (r2 : Int) (r3 : List (S99)) (r4 : Int) (r5 : Int) (r6 : Int) (r7 : Int) (r8 : Int) (r9 : Int) (w : World) (h : pylonlaw26_ex.f  = some (r1, r2, r3, r4, r5, r6, r7, r8, r9)) :
    Calls Try.prog 41 #[] w fun e w' => ∃ v2_ : Value, e = .returned (.agg #[.int .i64 r1, .int .i64 r2, v2_, .int .i64 r4, .int .i64 r5, .int .i64 r6, .int .i64 r7, .int .i64 r8, .int .i64 r9]) ∧ Kd.R k99 99 w' w.heap.size (fun _ => True) v2_ r3 ∧ Below w.heap.size w w' := by
  have hu24 := Try.underlying24
  have hu99 := Try.underlying99
  have HB := Aside0.mk (Below.refl w.heap.size w)
  have H : (some (0, 2, (([(⟨5, 1⟩ : S99), (⟨4, 3⟩ : S99)] : List (S99))), 2, 2, 5, 3, 0, (-1))) = some (r1, r2, r3, r4, r5, r6, r7, r8, r9) := h
  clear h
  obtain ⟨y154, hy154⟩ : ∃ y_ : List (S99), y_ = (([(⟨5, 1⟩ : S99), (⟨4, 3⟩ : S99)] : List (S99))) := ⟨_, rfl⟩
  replace H : (some (0, 2, y154, 2, 2, 5, 3, 0, (-1))) = some (r1, r2, r3, r4, r5, r6, r7, r8, r9) := by first | (rw [hy154]; with_reducible exact H) | (have H2_ := (Option.bind_some _ _).symm.trans H; rw [hy154]; with_reducible exact H2_) | (have H2_ := (Option.bind_some _ _).symm.trans H; with_reducible exact H2_) | with_reducible exact H | (rw [hy154]; exact H) | exact H
  have Ny154 := Aside0.mk hy154
  clear hy154
  simp only [Option.some.injEq, Prod.mk.injEq] at H
  obtain ⟨rfl, rfl, rfl, rfl, rfl, rfl, rfl, rfl, rfl⟩ := H
  go_enter Try.func41, Try.ntmps41
  go_wp2_with (first | ((with_reducible refine gate_dst (N := 0) rfl ?_); refine box_event ?hg (N := 0) ?hd (cs := #[.int .i64 0, .int .i64 0, .slice none 0 0, .int .i64 0, .int .i64 0, .int .i64 0, .int .i64 0, .int .i64 0, .int .i64 0]) (t := 24) ?hr ?_; (case hd => rfl); (case hg => rfl); (case hr => first | (go_simp; done) | (go_simp; rfl)); intro gb153 hg w1 hbox hb; have n0_ := Aside0.mk (below_step (by repeat (first | (with_reducible first | exact HB.out | apply below_alloc | apply pw_below_drewN | apply below_drew1) | exact HB.out)) hb); have n1_ := Aside0.mk (hbox); have n2_ := Aside0.mk ((by rw [hg]; exact (below_size (by repeat (first | (with_reducible first | exact HB.out | apply below_alloc | apply pw_below_drewN | apply below_drew1) | exact HB.out))) : w.heap.size ≤ gb153)); have n3_ := Aside0.mk ((by rw [hg]; exact (below_size (by repeat (first | (with_reducible first | exact HB.out | apply below_alloc | apply pw_below_drewN | apply below_drew1) | exact HB.out))) : w.heap.size ≤ gb153)); clear HB; have HB := n0_; have BK153 := n1_; have GW153 := n2_; have GE153 := n3_; clear n0_ n1_ n2_ n3_; clear hb hbox hg) | ((with_reducible refine gate_dst (N := 3) rfl ?_); refine Kd.R_lit k99 _ 99 ?hg (N := 3) ?hd (xs := ([(⟨5, 1⟩ : S99), (⟨4, 3⟩ : S99)] : List (S99))) (inner := [.int .i64 5, .int .i64 1, .int .i64 4, .int .i64 3]) (ok := fun _ => True) (okp := fun _ => True) ?hr ?hp (fun _ hk => hk) trivial (Below.refl _ _) (Nat.le_refl _) (by simp) ?_; (case hd => rfl); (case hg => rfl); (case hr => first | (go_simp; done) | (go_simp; rfl)); (case hp => exact (Reps.c2 (show Kd.M k99 _ _ _ (⟨5, 1⟩ : S99) [.int .i64 5, .int .i64 1] from (k99_mkM _ _ _ (⟨5, 1⟩ : S99) )) (Reps.c2 (show Kd.M k99 _ _ _ (⟨4, 3⟩ : S99) [.int .i64 4, .int .i64 3] from (k99_mkM _ _ _ (⟨4, 3⟩ : S99) )) (Reps.none _ _)))); intro v155 w2 ho3 hb hg_ hnew_; clear hg_ hnew_; (first | rw [← Ny154.out] at ho3 | (simp only [Int.reduceToNat] at ho3; rw [← Ny154.out] at ho3)); have n0_ := Aside0.mk (Kd.R_lower ho3 (below_size (by repeat (first | (with_reducible first | exact HB.out | apply below_alloc | apply pw_below_drewN | apply below_drew1 | refine below_set ?_ GE153.out) | exact HB.out)))); have n1_ := Aside0.mk (blk_below (g := gb153) (o := .cells #[.int .i64 0, .int .i64 0, .slice none 0 0, .int .i64 0, .int .i64 0, .int .i64 0, .int .i64 0, .int .i64 0, .int .i64 0] 24 (0, 0)) (by (with_reducible repeat (first | refine blk_drewN ?_ _ | refine blk_drew ?_ | refine blk_alloc ?_ _)); exact BK153.out) hb); have n2_ := Aside0.mk (below_step (by repeat (first | (with_reducible first | exact HB.out | apply below_alloc | apply pw_below_drewN | apply below_drew1 | refine below_set ?_ GE153.out) | exact HB.out)) hb); clear BK153; clear HB; have HO156 := n0_; have BK153 := n1_; have HB := n2_; clear n0_ n1_ n2_; clear hb ho3; obtain ⟨Ao4, co4, eo4⟩ := Kd.R_slice HO156.out; subst eo4; have hcz5_0 : w2.cell? ⟨gb153, 0, none⟩ = some (.int .i64 0) := (blk_cell BK153.out 0).trans rfl; have hcz5_1 : w2.cell? ⟨gb153, 1, none⟩ = some (.int .i64 0) := (blk_cell BK153.out 1).trans rfl; have hcz5_2 : w2.cell? ⟨gb153, 2, none⟩ = some (.slice none 0 0) := (blk_cell BK153.out 2).trans rfl; have hcz5_3 : w2.cell? ⟨gb153, 3, none⟩ = some (.int .i64 0) := (blk_cell BK153.out 3).trans rfl; have hcz5_4 : w2.cell? ⟨gb153, 4, none⟩ = some (.int .i64 0) := (blk_cell BK153.out 4).trans rfl; have hcz5_5 : w2.cell? ⟨gb153, 5, none⟩ = some (.int .i64 0) := (blk_cell BK153.out 5).trans rfl; have hcz5_6 : w2.cell? ⟨gb153, 6, none⟩ = some (.int .i64 0) := (blk_cell BK153.out 6).trans rfl; have hcz5_7 : w2.cell? ⟨gb153, 7, none⟩ = some (.int .i64 0) := (blk_cell BK153.out 7).trans rfl; have hcz5_8 : w2.cell? ⟨gb153, 8, none⟩ = some (.int .i64 0) := (blk_cell BK153.out 8).trans rfl; have hfz5_0 := blk_frozen BK153.out 0; have hfz5_1 := blk_frozen BK153.out 1; have hfz5_2 := blk_frozen BK153.out 2; have hfz5_3 := blk_frozen BK153.out 3; have hfz5_4 := blk_frozen BK153.out 4; have hfz5_5 := blk_frozen BK153.out 5; have hfz5_6 := blk_frozen BK153.out 6; have hfz5_7 := blk_frozen BK153.out 7; have hfz5_8 := blk_frozen BK153.out 8))
  refine bodyPost_ret (results_cell_row rfl _ _ gb153 24 #[.int .i64 0, .int .i64 2, .slice Ao4 y154.length co4, .int .i64 2, .int .i64 2, .int .i64 5, .int .i64 3, .int .i64 0, .int .i64 (-1)] (0, 0) _ rfl (by (with_reducible repeat (first | refine blk_drewN ?_ _ | refine blk_drew ?_ | refine blk_alloc ?_ _)); refine blk_put (cs := #[.int .i64 0, .int .i64 2, .slice Ao4 y154.length co4, .int .i64 2, .int .i64 2, .int .i64 5, .int .i64 3, .int .i64 0, .int .i64 0]) ?_ 8 _ rfl; (with_reducible repeat (first | refine blk_drewN ?_ _ | refine blk_drew ?_ | refine blk_alloc ?_ _)); refine blk_put (cs := #[.int .i64 0, .int .i64 2, .slice Ao4 y154.length co4, .int .i64 2, .int .i64 2, .int .i64 5, .int .i64 3, .int .i64 0, .int .i64 0]) ?_ 7 _ rfl; (with_reducible repeat (first | refine blk_drewN ?_ _ | refine blk_drew ?_ | refine blk_alloc ?_ _)); refine blk_put (cs := #[.int .i64 0, .int .i64 2, .slice Ao4 y154.length co4, .int .i64 2, .int .i64 2, .int .i64 5, .int .i64 0, .int .i64 0, .int .i64 0]) ?_ 6 _ rfl; (with_reducible repeat (first | refine blk_drewN ?_ _ | refine blk_drew ?_ | refine blk_alloc ?_ _)); refine blk_put (cs := #[.int .i64 0, .int .i64 2, .slice Ao4 y154.length co4, .int .i64 2, .int .i64 2, .int .i64 0, .int .i64 0, .int .i64 0, .int .i64 0]) ?_ 5 _ rfl; (with_reducible repeat (first | refine blk_drewN ?_ _ | refine blk_drew ?_ | refine blk_alloc ?_ _)); refine blk_put (cs := #[.int .i64 0, .int .i64 2, .slice Ao4 y154.length co4, .int .i64 2, .int .i64 0, .int .i64 0, .int .i64 0, .int .i64 0, .int .i64 0]) ?_ 4 _ rfl; (with_reducible repeat (first | refine blk_drewN ?_ _ | refine blk_drew ?_ | refine blk_alloc ?_ _)); refine blk_put (cs := #[.int .i64 0, .int .i64 2, .slice Ao4 y154.length co4, .int .i64 0, .int .i64 0, .int .i64 0, .int .i64 0, .int .i64 0, .int .i64 0]) ?_ 3 _ rfl; (with_reducible repeat (first | refine blk_drewN ?_ _ | refine blk_drew ?_ | refine blk_alloc ?_ _)); refine blk_put (cs := #[.int .i64 0, .int .i64 2, .slice none 0 0, .int .i64 0, .int .i64 0, .int .i64 0, .int .i64 0, .int .i64 0, .int .i64 0]) ?_ 2 _ rfl; (with_reducible repeat (first | refine blk_drewN ?_ _ | refine blk_drew ?_ | refine blk_alloc ?_ _)); refine blk_put (cs := #[.int .i64 0, .int .i64 0, .slice none 0 0, .int .i64 0, .int .i64 0, .int .i64 0, .int .i64 0, .int .i64 0, .int .i64 0]) ?_ 1 _ rfl; (with_reducible repeat (first | refine blk_drewN ?_ _ | refine blk_drew ?_ | refine blk_alloc ?_ _)); refine blk_put (cs := #[.int .i64 0, .int .i64 0, .slice none 0 0, .int .i64 0, .int .i64 0, .int .i64 0, .int .i64 0, .int .i64 0, .int .i64 0]) ?_ 0 _ rfl; (with_reducible repeat (first | refine blk_drewN ?_ _ | refine blk_drew ?_ | refine blk_alloc ?_ _)); exact BK153.out) Try.underlying24 rfl (by kernel_rfl)) rfl ?_
  exact ⟨_, by first | rfl | (simp [errW_none, errW_some] <;> rfl) | (simp [*, errW_none, errW_some] <;> rfl), by (with_reducible repeat (first | apply Kd.R_alloc | apply Kd.R_drewN | apply Kd.R_drew)); exact Kd.R_mono (Kd.R_far (p := ⟨gb153, 8, none⟩) (Kd.R_far (p := ⟨gb153, 7, none⟩) (Kd.R_far (p := ⟨gb153, 6, none⟩) (Kd.R_far (p := ⟨gb153, 5, none⟩) (Kd.R_far (p := ⟨gb153, 4, none⟩) (Kd.R_far (p := ⟨gb153, 3, none⟩) (Kd.R_far (p := ⟨gb153, 2, none⟩) (Kd.R_far (p := ⟨gb153, 1, none⟩) (Kd.R_far (p := ⟨gb153, 0, none⟩) (Kd.R_types HO156.out BK153.out (by decide)) (fun _ hk => hk.2) (.int .i64 0)) (fun _ hk => hk.2) (.int .i64 2)) (fun _ hk => hk.2) (.slice Ao4 y154.length co4)) (fun _ hk => hk.2) (.int .i64 2)) (fun _ hk => hk.2) (.int .i64 2)) (fun _ hk => hk.2) (.int .i64 5)) (fun _ hk => hk.2) (.int .i64 3)) (fun _ hk => hk.2) (.int .i64 0)) (fun _ hk => hk.2) (.int .i64 (-1))) (fun _ hk => trivial), by repeat (first | (with_reducible first | exact HB.out | apply below_alloc | apply pw_below_drewN | apply below_drew1 | refine below_set ?_ GE153.out) | exact HB.out)⟩

end Go.Proofs.Ytelklgdmhnkenaa.U
/- pylonlaw26.awake() is true: the chapter's examples. -/
namespace Go.Proofs.Ytelklgdmhnkenaa.U
open Go.RowKit Go.Proofs.YtelklgdmhnkenaaW.PrintWords Go.Proofs.YtelklgdmhnkenaaW.PrintLast Go.Proofs.YtelklgdmhnkenaaW.PrintMore
set_option linter.unusedVariables false
set_option linter.unusedSimpArgs false

theorem blk_bools {W : World} {g : Nat} {bs : List Bool} (h : W.heap[g]? = some (.cells (bls bs).toArray 4 (0, 0))) (hl : bs.length ≤ 9223372036854775807) : Kd.C Kd.bool W (some ⟨g, 0, none⟩) bs.length bs := by
  refine ⟨rfl, hl, fun _ => ⟨_, rfl, fun j b hj => ⟨[.bool b], rfl, rfl, fun q u hq => ?_⟩⟩⟩
  obtain rfl : q = 0 := by
    have := (List.getElem?_eq_some_iff.1 hq).1
    simpa using this
  have : u = .bool b := by simpa using hq.symm
  subst this
  rw [show (Kd.bool).sz = 1 from rfl, Nat.mul_one, Nat.add_zero, add_plain, blk_cell h]
  simp [bls, hj]
theorem lit_bools (W : World) (bs : List Bool) (hl : bs.length ≤ 9223372036854775807) : Kd.C Kd.bool (W.alloc (.cells (bls bs).toArray 4)) (some ⟨W.heap.size, 0, none⟩) bs.length bs := blk_bools (blk_new W _) hl
theorem lit_rows2 {W : World} {g g1 g2 : Nat} {x y : List Bool} (h : W.heap[g]? = some (.cells #[.slice (some ⟨g1, 0, none⟩) x.length x.length, .slice (some ⟨g2, 0, none⟩) y.length y.length] 32 (0, 0))) (h1 : Kd.C Kd.bool W (some ⟨g1, 0, none⟩) x.length x) (h2 : Kd.C Kd.bool W (some ⟨g2, 0, none⟩) y.length y) :
    Kd.C (Kd.slice 4 Kd.bool) W (some ⟨g, 0, none⟩) 2 [x, y] := by
  refine ⟨rfl, by omega, fun _ => ⟨_, rfl, fun j p hj => ?_⟩⟩
  obtain rfl | rfl : j = 0 ∨ j = 1 := by
    have := (List.getElem?_eq_some_iff.1 hj).1
    simp at this
    omega
  · obtain rfl : x = p := by simpa using hj
    refine ⟨_, rfl, ⟨_, _, rfl, Nat.le_refl _, h1⟩, fun q u hq => ?_⟩
    obtain rfl : q = 0 := by
      have := (List.getElem?_eq_some_iff.1 hq).1
      simpa using this
    rw [show (Kd.slice 4 Kd.bool).sz = 1 from rfl, add_plain, blk_cell h]
    simpa using hq
  · obtain rfl : y = p := by simpa using hj
    refine ⟨_, rfl, ⟨_, _, rfl, Nat.le_refl _, h2⟩, fun q u hq => ?_⟩
    obtain rfl : q = 0 := by
      have := (List.getElem?_eq_some_iff.1 hq).1
      simpa using this
    rw [show (Kd.slice 4 Kd.bool).sz = 1 from rfl, add_plain, blk_cell h]
    simpa using hq

set_option maxHeartbeats 16000000 in
set_option maxRecDepth 100000 in
theorem awake_calls (w : World) : Calls Try.prog 17 #[] w fun e w' => e = .returned (.bool true) ∧ Below w.heap.size w w' := by
  have hu24 := Try.underlying24
  go_enter Try.func17, Try.ntmps17
  go_wp2_with fail
  refine (pylonlaw26_ex.calls 0 2 _ 2 2 5 3 0 (-1) _ rfl).mono ?_
  rintro e w1 ⟨v2, rfl, ho, hb1⟩
  obtain ⟨A, c, ev, hc, hC⟩ := Kd.R_reads ho
  obtain ⟨l, hl⟩ : ∃ l : List S99, l = [⟨5, 1⟩, ⟨4, 3⟩] := ⟨_, rfl⟩
  rw [← hl] at ev hc hC
  have HL := Aside0.mk hl
  have HC := Aside0.mk hc
  have HR := Aside0.mk hC
  have HB := Aside0.mk hb1
  clear hl hc hC ho hb1
  subst ev
  go_wp2_with fail
  obtain ⟨g, hg⟩ : ∃ g, g = w1.heap.size := ⟨_, rfl⟩
  obtain ⟨W0, hW⟩ : ∃ W, W = w1.alloc (.cells #[.int .i64 0, .int .i64 2, .slice A l.length c, .int .i64 2, .int .i64 2, .int .i64 5, .int .i64 3, .int .i64 0, .int .i64 (-1)] 24) := ⟨_, rfl⟩
  rw [← hg, ← hW]
  have HU0 := Aside0.mk (show W0.heap[g]? = some (.cells #[.int .i64 0, .int .i64 2, .slice A l.length c, .int .i64 2, .int .i64 2, .int .i64 5, .int .i64 3, .int .i64 0, .int .i64 (-1)] 24 (0, 0)) by rw [hW, hg]; exact blk_new _ _)
  have HB0 := Aside0.mk (show Below w.heap.size w W0 by rw [hW]; exact below_alloc HB.out _)
  have HR0 := Aside0.mk (show Kd.C k99 W0 A l.length l by rw [hW]; exact Kd.C_alloc HR.out _)
  clear hW hg HB HR

  refine (unit_Next.calls 20 0 2 A c l 2 2 5 3 0 (-1) 1 false 0 false _ HR0.out HC.out (by rw [HL.out]; decide +kernel)).mono ?_
  rintro e W1 ⟨rfl, hb⟩
  have HU1 := Aside0.mk (blk_below HU0.out hb)
  have HB1 := Aside0.mk (below_step HB0.out hb)
  have HR1 := Aside0.mk (Kd.C_below HR0.out hb)
  clear HU0 HB0 HR0 hb
  have u0 := (blk_cell HU1.out 0).trans rfl; have u1 := (blk_cell HU1.out 1).trans rfl; have u2 := (blk_cell HU1.out 2).trans rfl; have u3 := (blk_cell HU1.out 3).trans rfl; have u4 := (blk_cell HU1.out 4).trans rfl; have u5 := (blk_cell HU1.out 5).trans rfl; have u6 := (blk_cell HU1.out 6).trans rfl; have u7 := (blk_cell HU1.out 7).trans rfl; have u8 := (blk_cell HU1.out 8).trans rfl
  go_wp2_with fail
  refine (unit_Next.calls 20 0 2 A c l 2 2 5 3 0 (-1) 2 false (-1) true _ HR1.out HC.out (by rw [HL.out]; decide +kernel)).mono ?_
  rintro e W2 ⟨rfl, hb⟩
  have HU2 := Aside0.mk (blk_below HU1.out hb)
  have HB2 := Aside0.mk (below_step HB1.out hb)
  have HR2 := Aside0.mk (Kd.C_below HR1.out hb)
  clear HU1 HB1 HR1 hb
  clear u0 u1 u2 u3 u4 u5 u6 u7 u8
  have u0 := (blk_cell HU2.out 0).trans rfl; have u1 := (blk_cell HU2.out 1).trans rfl; have u2 := (blk_cell HU2.out 2).trans rfl; have u3 := (blk_cell HU2.out 3).trans rfl; have u4 := (blk_cell HU2.out 4).trans rfl; have u5 := (blk_cell HU2.out 5).trans rfl; have u6 := (blk_cell HU2.out 6).trans rfl; have u7 := (blk_cell HU2.out 7).trans rfl; have u8 := (blk_cell HU2.out 8).trans rfl
  go_wp2_with fail
  refine (unit_Next.calls 20 0 2 A c l 2 2 5 3 0 (-1) (-2) true 1 true _ HR2.out HC.out (by rw [HL.out]; decide +kernel)).mono ?_
  rintro e W3 ⟨rfl, hb⟩
  have HU3 := Aside0.mk (blk_below HU2.out hb)
  have HB3 := Aside0.mk (below_step HB2.out hb)
  have HR3 := Aside0.mk (Kd.C_below HR2.out hb)
  clear HU2 HB2 HR2 hb
  clear u0 u1 u2 u3 u4 u5 u6 u7 u8
  have u0 := (blk_cell HU3.out 0).trans rfl; have u1 := (blk_cell HU3.out 1).trans rfl; have u2 := (blk_cell HU3.out 2).trans rfl; have u3 := (blk_cell HU3.out 3).trans rfl; have u4 := (blk_cell HU3.out 4).trans rfl; have u5 := (blk_cell HU3.out 5).trans rfl; have u6 := (blk_cell HU3.out 6).trans rfl; have u7 := (blk_cell HU3.out 7).trans rfl; have u8 := (blk_cell HU3.out 8).trans rfl
  go_wp2_with fail
  obtain ⟨L, hLL⟩ : ∃ L : List (List Bool), L = [[false, false], [false, true]] := ⟨_, rfl⟩
  have HLL := Aside0.mk hLL
  clear hLL
  refine (unit_Schedules.calls 0 2 A c l 2 2 5 3 0 (-1) 2 L 0 _ HR3.out HC.out (by rw [HL.out, HLL.out]; decide +kernel)).mono ?_
  rintro e W4 ⟨v8, rfl, hs8, hb⟩
  have HU4 := Aside0.mk (blk_below HU3.out hb)
  have HB4 := Aside0.mk (below_step HB3.out hb)
  have HR4 := Aside0.mk (Kd.C_below HR3.out hb)
  clear HU3 HB3 HR3 hb
  clear u0 u1 u2 u3 u4 u5 u6 u7 u8
  obtain ⟨A8, c8, e8⟩ := Kd.S_slice hs8
  have HS4 := Aside0.mk hs8
  clear hs8
  subst e8
  have u0 := (blk_cell HU4.out 0).trans rfl; have u1 := (blk_cell HU4.out 1).trans rfl; have u2 := (blk_cell HU4.out 2).trans rfl; have u3 := (blk_cell HU4.out 3).trans rfl; have u4 := (blk_cell HU4.out 4).trans rfl; have u5 := (blk_cell HU4.out 5).trans rfl; have u6 := (blk_cell HU4.out 6).trans rfl; have u7 := (blk_cell HU4.out 7).trans rfl; have u8 := (blk_cell HU4.out 8).trans rfl
  go_wp2_with fail
  refine (unit_Check.calls 20 0 2 A c l 2 2 5 3 0 (-1) 1 0 _ HR4.out HC.out (by rw [HL.out]; decide +kernel)).mono ?_
  rintro e W5 ⟨rfl, hb⟩
  have HU5 := Aside0.mk (blk_below HU4.out hb)
  have HB5 := Aside0.mk (below_step HB4.out hb)
  have HR5 := Aside0.mk (Kd.C_below HR4.out hb)
  have HS5 := Aside0.mk (Kd.S_below HS4.out hb)
  clear HS4
  clear HU4 HB4 HR4 hb
  clear u0 u1 u2 u3 u4 u5 u6 u7 u8
  have u0 := (blk_cell HU5.out 0).trans rfl; have u1 := (blk_cell HU5.out 1).trans rfl; have u2 := (blk_cell HU5.out 2).trans rfl; have u3 := (blk_cell HU5.out 3).trans rfl; have u4 := (blk_cell HU5.out 4).trans rfl; have u5 := (blk_cell HU5.out 5).trans rfl; have u6 := (blk_cell HU5.out 6).trans rfl; have u7 := (blk_cell HU5.out 7).trans rfl; have u8 := (blk_cell HU5.out 8).trans rfl
  go_wp2_with fail
  refine (unit_Check.calls 20 0 2 A c l 2 2 5 3 0 (-1) 0 1 _ HR5.out HC.out (by rw [HL.out]; decide +kernel)).mono ?_
  rintro e W6 ⟨rfl, hb⟩
  have HU6 := Aside0.mk (blk_below HU5.out hb)
  have HB6 := Aside0.mk (below_step HB5.out hb)
  have HR6 := Aside0.mk (Kd.C_below HR5.out hb)
  have HS6 := Aside0.mk (Kd.S_below HS5.out hb)
  clear HS5
  clear HU5 HB5 HR5 hb
  clear u0 u1 u2 u3 u4 u5 u6 u7 u8
  have u0 := (blk_cell HU6.out 0).trans rfl; have u1 := (blk_cell HU6.out 1).trans rfl; have u2 := (blk_cell HU6.out 2).trans rfl; have u3 := (blk_cell HU6.out 3).trans rfl; have u4 := (blk_cell HU6.out 4).trans rfl; have u5 := (blk_cell HU6.out 5).trans rfl; have u6 := (blk_cell HU6.out 6).trans rfl; have u7 := (blk_cell HU6.out 7).trans rfl; have u8 := (blk_cell HU6.out 8).trans rfl
  go_wp2_with fail
  refine (unit_Max.calls 20 0 2 A c l 2 2 5 3 0 (-1) 9 _ HR6.out HC.out (by rw [HL.out]; decide +kernel)).mono ?_
  rintro e W7 ⟨rfl, hb⟩
  have HU7 := Aside0.mk (blk_below HU6.out hb)
  have HB7 := Aside0.mk (below_step HB6.out hb)
  have HR7 := Aside0.mk (Kd.C_below HR6.out hb)
  have HS7 := Aside0.mk (Kd.S_below HS6.out hb)
  clear HS6
  clear HU6 HB6 HR6 hb
  clear u0 u1 u2 u3 u4 u5 u6 u7 u8
  have u0 := (blk_cell HU7.out 0).trans rfl; have u1 := (blk_cell HU7.out 1).trans rfl; have u2 := (blk_cell HU7.out 2).trans rfl; have u3 := (blk_cell HU7.out 3).trans rfl; have u4 := (blk_cell HU7.out 4).trans rfl; have u5 := (blk_cell HU7.out 5).trans rfl; have u6 := (blk_cell HU7.out 6).trans rfl; have u7 := (blk_cell HU7.out 7).trans rfl; have u8 := (blk_cell HU7.out 8).trans rfl
  go_wp2_with fail
  refine (unit_Initial.calls 20 0 2 A c l 2 2 5 3 0 (-1) (-1) _ HR7.out HC.out (by rw [HL.out]; decide +kernel)).mono ?_
  rintro e W8 ⟨rfl, hb⟩
  have HU8 := Aside0.mk (blk_below HU7.out hb)
  have HB8 := Aside0.mk (below_step HB7.out hb)
  have HR8 := Aside0.mk (Kd.C_below HR7.out hb)
  have HS8 := Aside0.mk (Kd.S_below HS7.out hb)
  clear HS7
  clear HU7 HB7 HR7 hb
  clear u0 u1 u2 u3 u4 u5 u6 u7 u8
  have u0 := (blk_cell HU8.out 0).trans rfl; have u1 := (blk_cell HU8.out 1).trans rfl; have u2 := (blk_cell HU8.out 2).trans rfl; have u3 := (blk_cell HU8.out 3).trans rfl; have u4 := (blk_cell HU8.out 4).trans rfl; have u5 := (blk_cell HU8.out 5).trans rfl; have u6 := (blk_cell HU8.out 6).trans rfl; have u7 := (blk_cell HU8.out 7).trans rfl; have u8 := (blk_cell HU8.out 8).trans rfl
  go_wp2_with fail
  refine (unit_Feasible.calls 40 0 2 A c l 2 2 5 3 0 (-1) (some ⟨W8.heap.size, 0, none⟩) 5 [false, false, true, true, false] true _ (Kd.C_alloc HR8.out _) HC.out (lit_bools W8 [false, false, true, true, false] (by decide)) (Nat.le_refl _) (by rw [HL.out]; decide +kernel)).mono ?_
  rintro e W9 ⟨rfl, hb⟩
  have HU9 := Aside0.mk (blk_below HU8.out (below_step (below_alloc (Below.refl W8.heap.size W8) _) hb))
  have HB9 := Aside0.mk (below_step HB8.out (below_step (below_alloc (Below.refl W8.heap.size W8) _) hb))
  have HR9 := Aside0.mk (Kd.C_below HR8.out (below_step (below_alloc (Below.refl W8.heap.size W8) _) hb))
  have HS9 := Aside0.mk (Kd.S_below HS8.out (below_step (below_alloc (Below.refl W8.heap.size W8) _) hb))
  clear HS8
  clear HU8 HB8 HR8 hb
  clear u0 u1 u2 u3 u4 u5 u6 u7 u8
  have u0 := (blk_cell HU9.out 0).trans rfl; have u1 := (blk_cell HU9.out 1).trans rfl; have u2 := (blk_cell HU9.out 2).trans rfl; have u3 := (blk_cell HU9.out 3).trans rfl; have u4 := (blk_cell HU9.out 4).trans rfl; have u5 := (blk_cell HU9.out 5).trans rfl; have u6 := (blk_cell HU9.out 6).trans rfl; have u7 := (blk_cell HU9.out 7).trans rfl; have u8 := (blk_cell HU9.out 8).trans rfl
  go_wp2_with fail
  refine (unit_Feasible.calls 40 0 2 A c l 2 2 5 3 0 (-1) (some ⟨W9.heap.size, 0, none⟩) 2 [false, true] true _ (Kd.C_alloc HR9.out _) HC.out (lit_bools W9 [false, true] (by decide)) (Nat.le_refl _) (by rw [HL.out]; decide +kernel)).mono ?_
  rintro e W10 ⟨rfl, hb⟩
  have HU10 := Aside0.mk (blk_below HU9.out (below_step (below_alloc (Below.refl W9.heap.size W9) _) hb))
  have HB10 := Aside0.mk (below_step HB9.out (below_step (below_alloc (Below.refl W9.heap.size W9) _) hb))
  have HR10 := Aside0.mk (Kd.C_below HR9.out (below_step (below_alloc (Below.refl W9.heap.size W9) _) hb))
  have HS10 := Aside0.mk (Kd.S_below HS9.out (below_step (below_alloc (Below.refl W9.heap.size W9) _) hb))
  clear HS9
  clear HU9 HB9 HR9 hb
  clear u0 u1 u2 u3 u4 u5 u6 u7 u8
  have u0 := (blk_cell HU10.out 0).trans rfl; have u1 := (blk_cell HU10.out 1).trans rfl; have u2 := (blk_cell HU10.out 2).trans rfl; have u3 := (blk_cell HU10.out 3).trans rfl; have u4 := (blk_cell HU10.out 4).trans rfl; have u5 := (blk_cell HU10.out 5).trans rfl; have u6 := (blk_cell HU10.out 6).trans rfl; have u7 := (blk_cell HU10.out 7).trans rfl; have u8 := (blk_cell HU10.out 8).trans rfl
  go_wp2_with fail
  refine (unit_Feasible.calls 40 0 2 A c l 2 2 5 3 0 (-1) (some ⟨W10.heap.size, 0, none⟩) 1 [true] false _ (Kd.C_alloc HR10.out _) HC.out (lit_bools W10 [true] (by decide)) (Nat.le_refl _) (by rw [HL.out]; decide +kernel)).mono ?_
  rintro e W11 ⟨rfl, hb⟩
  have HU11 := Aside0.mk (blk_below HU10.out (below_step (below_alloc (Below.refl W10.heap.size W10) _) hb))
  have HB11 := Aside0.mk (below_step HB10.out (below_step (below_alloc (Below.refl W10.heap.size W10) _) hb))
  have HR11 := Aside0.mk (Kd.C_below HR10.out (below_step (below_alloc (Below.refl W10.heap.size W10) _) hb))
  have HS11 := Aside0.mk (Kd.S_below HS10.out (below_step (below_alloc (Below.refl W10.heap.size W10) _) hb))
  clear HS10
  clear HU10 HB10 HR10 hb
  clear u0 u1 u2 u3 u4 u5 u6 u7 u8
  have u0 := (blk_cell HU11.out 0).trans rfl; have u1 := (blk_cell HU11.out 1).trans rfl; have u2 := (blk_cell HU11.out 2).trans rfl; have u3 := (blk_cell HU11.out 3).trans rfl; have u4 := (blk_cell HU11.out 4).trans rfl; have u5 := (blk_cell HU11.out 5).trans rfl; have u6 := (blk_cell HU11.out 6).trans rfl; have u7 := (blk_cell HU11.out 7).trans rfl; have u8 := (blk_cell HU11.out 8).trans rfl
  go_wp2_with fail
  refine (unit_Feasible.calls 40 0 2 A c l 2 2 5 3 0 (-1) (some ⟨W11.heap.size, 0, none⟩) 3 [false, true, false] false _ (Kd.C_alloc HR11.out _) HC.out (lit_bools W11 [false, true, false] (by decide)) (Nat.le_refl _) (by rw [HL.out]; decide +kernel)).mono ?_
  rintro e W12 ⟨rfl, hb⟩
  have HU12 := Aside0.mk (blk_below HU11.out (below_step (below_alloc (Below.refl W11.heap.size W11) _) hb))
  have HB12 := Aside0.mk (below_step HB11.out (below_step (below_alloc (Below.refl W11.heap.size W11) _) hb))
  have HR12 := Aside0.mk (Kd.C_below HR11.out (below_step (below_alloc (Below.refl W11.heap.size W11) _) hb))
  have HS12 := Aside0.mk (Kd.S_below HS11.out (below_step (below_alloc (Below.refl W11.heap.size W11) _) hb))
  clear HS11
  clear HU11 HB11 HR11 hb
  clear u0 u1 u2 u3 u4 u5 u6 u7 u8
  have u0 := (blk_cell HU12.out 0).trans rfl; have u1 := (blk_cell HU12.out 1).trans rfl; have u2 := (blk_cell HU12.out 2).trans rfl; have u3 := (blk_cell HU12.out 3).trans rfl; have u4 := (blk_cell HU12.out 4).trans rfl; have u5 := (blk_cell HU12.out 5).trans rfl; have u6 := (blk_cell HU12.out 6).trans rfl; have u7 := (blk_cell HU12.out 7).trans rfl; have u8 := (blk_cell HU12.out 8).trans rfl
  go_wp2_with fail
  obtain ⟨V, hV⟩ : ∃ V, V = ((W12.alloc (.cells #[.bool false, .bool false] 4)).alloc (.cells #[.bool false, .bool true] 4)).alloc (.cells #[.slice (some ⟨W12.heap.size, 0, none⟩) 2 2, .slice (some ⟨W12.heap.size + 1, 0, none⟩) 2 2] 32) := ⟨_, rfl⟩
  rw [← hV]
  have hb : Below W12.heap.size W12 V := by rw [hV]; exact below_alloc (below_alloc (below_alloc (Below.refl _ _) _) _) _
  have k1 : V.heap[W12.heap.size]? = some (.cells (bls [false, false]).toArray 4 (0, 0)) := by rw [hV]; exact blk_alloc (blk_alloc (blk_new _ _) _) _
  have k2 : V.heap[W12.heap.size + 1]? = some (.cells (bls [false, true]).toArray 4 (0, 0)) := by rw [hV, show W12.heap.size + 1 = (W12.alloc (.cells #[.bool false, .bool false] 4)).heap.size by simp]; exact blk_alloc (blk_new _ _) _
  have k3 : V.heap[W12.heap.size + 1 + 1]? = some (.cells #[.slice (some ⟨W12.heap.size, 0, none⟩) 2 2, .slice (some ⟨W12.heap.size + 1, 0, none⟩) 2 2] 32 (0, 0)) := by rw [hV, show W12.heap.size + 1 + 1 = ((W12.alloc (.cells #[.bool false, .bool false] 4)).alloc (.cells #[.bool false, .bool true] 4)).heap.size by simp]; exact blk_new _ _
  have K := Aside0.mk (lit_rows2 (x := [false, false]) (y := [false, true]) k3 (blk_bools k1 (by decide)) (blk_bools k2 (by decide)))
  have HU13 := Aside0.mk (blk_below HU12.out hb)
  have HB13 := Aside0.mk (below_step HB12.out hb)
  have HR13 := Aside0.mk (Kd.C_below HR12.out hb)
  have HS13 := Aside0.mk (Kd.S_below HS12.out hb)
  clear hV hb k1 k2 k3 HU12 HB12 HR12 HS12
  refine (pylonref26_SameAll.calls 40 A8 c8 L (some ⟨W12.heap.size + 1 + 1, 0, none⟩) 2 [[false, false], [false, true]] true _ (Kd.S_reads' HS13.out).2.2 (Kd.S_reads' HS13.out).2.1 K.out (Nat.le_refl _) (by rw [HLL.out]; decide +kernel)).mono ?_
  rintro e W14 ⟨rfl, hd⟩
  have hb := hd.below; clear hd
  have HU14 := Aside0.mk (blk_below HU13.out hb)
  have HB14 := Aside0.mk (below_step HB13.out hb)
  have HR14 := Aside0.mk (Kd.C_below HR13.out hb)
  clear HU13 HB13 HR13 hb
  clear u0 u1 u2 u3 u4 u5 u6 u7 u8
  have u0 := (blk_cell HU14.out 0).trans rfl; have u1 := (blk_cell HU14.out 1).trans rfl; have u2 := (blk_cell HU14.out 2).trans rfl; have u3 := (blk_cell HU14.out 3).trans rfl; have u4 := (blk_cell HU14.out 4).trans rfl; have u5 := (blk_cell HU14.out 5).trans rfl; have u6 := (blk_cell HU14.out 6).trans rfl; have u7 := (blk_cell HU14.out 7).trans rfl; have u8 := (blk_cell HU14.out 8).trans rfl
  go_wp2_with fail
  refine (unit_Starts.calls 40 0 2 A c l 2 2 5 3 0 (-1) (some ⟨W14.heap.size, 0, none⟩) 2 [false, true] 1 _ (Kd.C_alloc HR14.out _) HC.out (lit_bools W14 [false, true] (by decide)) (Nat.le_refl _) (by rw [HL.out]; decide +kernel)).mono ?_
  rintro e W15 ⟨rfl, hb⟩
  have HU15 := Aside0.mk (blk_below HU14.out (below_step (below_alloc (Below.refl W14.heap.size W14) _) hb))
  have HB15 := Aside0.mk (below_step HB14.out (below_step (below_alloc (Below.refl W14.heap.size W14) _) hb))
  have HR15 := Aside0.mk (Kd.C_below HR14.out (below_step (below_alloc (Below.refl W14.heap.size W14) _) hb))
  clear HU14 HB14 HR14 hb
  clear u0 u1 u2 u3 u4 u5 u6 u7 u8
  have u0 := (blk_cell HU15.out 0).trans rfl; have u1 := (blk_cell HU15.out 1).trans rfl; have u2 := (blk_cell HU15.out 2).trans rfl; have u3 := (blk_cell HU15.out 3).trans rfl; have u4 := (blk_cell HU15.out 4).trans rfl; have u5 := (blk_cell HU15.out 5).trans rfl; have u6 := (blk_cell HU15.out 6).trans rfl; have u7 := (blk_cell HU15.out 7).trans rfl; have u8 := (blk_cell HU15.out 8).trans rfl
  go_wp2_with fail
  refine (unit_FixedCost.calls 40 0 2 A c l 2 2 5 3 0 (-1) (some ⟨W15.heap.size, 0, none⟩) 2 [false, true] 8 _ (Kd.C_alloc HR15.out _) HC.out (lit_bools W15 [false, true] (by decide)) (Nat.le_refl _) (by rw [HL.out]; decide +kernel)).mono ?_
  rintro e V2 ⟨rfl, hb⟩
  have HV := Aside0.mk (below_step HB15.out (below_step (below_alloc (Below.refl W15.heap.size W15) _) hb))
  clear hb u0 u1 u2 u3 u4 u5 u6 u7 u8
  go_wp2_with fail
  go_ret
  exact ⟨rfl, HV.out⟩
def pylonlaw26_awake.f : Option Bool := some true
theorem pylonlaw26_awake.calls (r : Bool) (w : World) (h : pylonlaw26_awake.f = some r) :
    Calls Try.prog 17 #[] w fun e w' => e = .returned (.bool r) ∧ Below w.heap.size w w' := by
  obtain rfl := Option.some.inj h
  exact awake_calls w
end Go.Proofs.Ytelklgdmhnkenaa.U
/- Lean functions with the answers of Go functions, and proofs that the calls come to these answers (lines by a program of this session, wip/patch_print.py, over the kit's print tool). -/
namespace Go.Proofs.Ytelklgdmhnkenaa.U
open Go.RowKit Go.Proofs.YtelklgdmhnkenaaW.PrintWords Go.Proofs.YtelklgdmhnkenaaW.PrintLast Go.Proofs.YtelklgdmhnkenaaW.PrintMore
attribute [local go_sem] max2_int min2_int max_two min_two max_three min_three max_four min_four   -- for this text's walks alone
set_option linter.unusedVariables false
set_option linter.unusedSimpArgs false

/-! ### pylonlaw26_UnitSchedulesMatch: function 3 -/
mutual
def pylonlaw26_UnitSchedulesMatch.l0 : Nat → Int → List (List Bool) → Int → Int → Int → Int → List (S99) → Int → Int → Int → Int → Int → Int → Option (Bool)
  | 0, _, _, _, _, _, _, _, _, _, _, _, _, _ => none
  | k + 1, x1, x5, x6, x7, x325000, x325001, x325002, x325003, x325004, x325005, x325006, x325007, x325008 => if x7 < 2 then ((unit_Schedules.f x325000 x325001 x325002 x325003 x325004 x325005 x325006 x325007 x325008 x1).bind fun bt332 => (if x6 = bt332.2 then ((pylonref26_SameAll.f k bt332.1 x5).bind fun t336 => (pylonlaw26_UnitSchedulesMatch.j1 k x1 x5 x6 x7 bt332.1 (!t336) x325000 x325001 x325002 x325003 x325004 x325005 x325006 x325007 x325008)) else (pylonlaw26_UnitSchedulesMatch.j1 k x1 x5 x6 x7 bt332.1 true x325000 x325001 x325002 x325003 x325004 x325005 x325006 x325007 x325008))) else ((pylonlaw26_awake.f).bind fun t331 => (some t331))
def pylonlaw26_UnitSchedulesMatch.j1 : Nat → Int → List (List Bool) → Int → Int → List (List Bool) → Bool → Int → Int → List (S99) → Int → Int → Int → Int → Int → Int → Option (Bool)
  | 0, _, _, _, _, _, _, _, _, _, _, _, _, _, _, _ => none
  | k + 1, x1, x5, x6, x7, x8, x39, x325000, x325001, x325002, x325003, x325004, x325005, x325006, x325007, x325008 => if x39 = true then (some false) else (pylonlaw26_UnitSchedulesMatch.l1 k x1 x5 x6 x7 x8 0 x325000 x325001 x325002 x325003 x325004 x325005 x325006 x325007 x325008)
def pylonlaw26_UnitSchedulesMatch.l1 : Nat → Int → List (List Bool) → Int → Int → List (List Bool) → Int → Int → Int → List (S99) → Int → Int → Int → Int → Int → Int → Option (Bool)
  | 0, _, _, _, _, _, _, _, _, _, _, _, _, _, _, _ => none
  | k + 1, x1, x5, x6, x7, x8, x10, x325000, x325001, x325002, x325003, x325004, x325005, x325006, x325007, x325008 => if x10 < (x8.length : Int) then (pylonlaw26_UnitSchedulesMatch.l2 k x1 x5 x6 x7 x8 x10 0 x325000 x325001 x325002 x325003 x325004 x325005 x325006 x325007 x325008) else (pylonlaw26_UnitSchedulesMatch.l0 k x1 x5 x6 (wrap64 (x7 + 1)) x325000 x325001 x325002 x325003 x325004 x325005 x325006 x325007 x325008)
def pylonlaw26_UnitSchedulesMatch.l2 : Nat → Int → List (List Bool) → Int → Int → List (List Bool) → Int → Int → Int → Int → List (S99) → Int → Int → Int → Int → Int → Int → Option (Bool)
  | 0, _, _, _, _, _, _, _, _, _, _, _, _, _, _, _, _ => none
  | k + 1, x1, x5, x6, x7, x8, x10, x11, x325000, x325001, x325002, x325003, x325004, x325005, x325006, x325007, x325008 => if 0 ≤ x10 then (if x10 < (x8.length : Int) then (if x11 < ((rd_L5 x8 x10).length : Int) then (if 0 ≤ x11 then (pylonlaw26_UnitSchedulesMatch.l2 k x1 x5 x6 x7 x8 x10 (wrap64 (x11 + 1)) x325000 x325001 x325002 x325003 x325004 x325005 x325006 x325007 x325008) else (none)) else (pylonlaw26_UnitSchedulesMatch.l1 k x1 x5 x6 x7 x8 (wrap64 (x10 + 1)) x325000 x325001 x325002 x325003 x325004 x325005 x325006 x325007 x325008)) else (none)) else (none)
end
def pylonlaw26_UnitSchedulesMatch.f (k : Nat) (a0_0 : Int) (a0_1 : Int) (l0_2 : List (S99)) (a0_3 : Int) (a0_4 : Int) (a0_5 : Int) (a0_6 : Int) (a0_7 : Int) (a0_8 : Int) (a1 : Int) : Option (Bool) := (pylonlaw26_Long.f a0_0 a0_1 l0_2 a0_3 a0_4 a0_5 a0_6 a0_7 a0_8 ([] : List Bool)).bind fun t325 => (if t325 = true then ((pylonlaw26_awake.f).bind fun t326 => (some t326)) else ((pylonref26_Schedules.f k a0_0 a0_1 l0_2 a0_3 a0_4 a0_5 a0_6 a0_7 a0_8 a1).bind fun bt327 => (pylonlaw26_UnitSchedulesMatch.l0 k a1 bt327.1 bt327.2 0 a0_0 a0_1 l0_2 a0_3 a0_4 a0_5 a0_6 a0_7 a0_8)))
set_option maxHeartbeats 8000000 in
set_option maxRecDepth 100000 in
theorem pylonlaw26_UnitSchedulesMatch.calls (k : Nat) (a0_0 : Int) (a0_1 : Int) (A0_2 : Option Addr) (c0_2 : Nat) (l0_2 : List (S99)) (a0_3 : Int) (a0_4 : Int) (a0_5 : Int) (a0_6 : Int) (a0_7 : Int) (a0_8 : Int) (a1 : Int) (r : Bool) (w : World) (hr0_2 : Kd.C k99 w A0_2 l0_2.length l0_2) (hc0_2 : l0_2.length ≤ c0_2) (h : pylonlaw26_UnitSchedulesMatch.f k a0_0 a0_1 l0_2 a0_3 a0_4 a0_5 a0_6 a0_7 a0_8 a1 = some r) :
    Calls Try.prog 3 #[.agg #[.int .i64 a0_0, .int .i64 a0_1, .slice A0_2 l0_2.length c0_2, .int .i64 a0_3, .int .i64 a0_4, .int .i64 a0_5, .int .i64 a0_6, .int .i64 a0_7, .int .i64 a0_8], .int .i64 a1] w fun e w' => e = .returned (.bool r) ∧ Below w.heap.size w w' := by
  have hu24 := Try.underlying24
  have HR0_2 := Aside0.mk hr0_2
  have HC0_2 := Aside0.mk hc0_2
  clear hr0_2 hc0_2
  have HB := Aside0.mk (Below.refl w.heap.size w)
  have H : ((pylonlaw26_Long.f a0_0 a0_1 l0_2 a0_3 a0_4 a0_5 a0_6 a0_7 a0_8 ([] : List Bool)).bind fun t325 => (if t325 = true then ((pylonlaw26_awake.f).bind fun t326 => (some t326)) else ((pylonref26_Schedules.f k a0_0 a0_1 l0_2 a0_3 a0_4 a0_5 a0_6 a0_7 a0_8 a1).bind fun bt327 => (pylonlaw26_UnitSchedulesMatch.l0 k a1 bt327.1 bt327.2 0 a0_0 a0_1 l0_2 a0_3 a0_4 a0_5 a0_6 a0_7 a0_8)))) = some r := h
  clear h
  replace H := Option.bind_eq_some_iff.mp H
  obtain ⟨t325, A30, H⟩ := H
  replace H : (if t325 = true then ((pylonlaw26_awake.f).bind fun t326 => (some t326)) else ((pylonref26_Schedules.f k a0_0 a0_1 l0_2 a0_3 a0_4 a0_5 a0_6 a0_7 a0_8 a1).bind fun bt327 => (pylonlaw26_UnitSchedulesMatch.l0 k a1 bt327.1 bt327.2 0 a0_0 a0_1 l0_2 a0_3 a0_4 a0_5 a0_6 a0_7 a0_8))) = some r := H
  have A3 := Aside0.mk A30
  clear A30
  by_cases c4 : t325 = true
  · subst c4
    have H1 : ((pylonlaw26_awake.f).bind fun t326 => (some t326)) = some r := by rw [if_pos rfl] at H; exact H
    clear H
    have H := H1
    clear H1
    replace H := Option.bind_eq_some_iff.mp H
    obtain ⟨t326, A50, H⟩ := H
    replace H : (some t326) = some r := H
    have A5 := Aside0.mk A50
    clear A50
    obtain rfl := Option.some.inj H
    go_enter Try.func3, Try.ntmps3
    go_wp2_with (first | ((with_reducible refine gate_dst (N := 2) rfl ?_); refine box_event ?hg (N := 2) ?hd (cs := #[.int .i64 a0_0, .int .i64 a0_1, .slice A0_2 l0_2.length c0_2, .int .i64 a0_3, .int .i64 a0_4, .int .i64 a0_5, .int .i64 a0_6, .int .i64 a0_7, .int .i64 a0_8]) (t := 24) ?hr ?_; (case hd => rfl); (case hg => rfl); (case hr => first | (go_simp; done) | (go_simp; rfl)); intro gb324 hg w6 hbox hb; have n0_ := Aside0.mk (below_step (by repeat (first | (with_reducible first | exact HB.out | apply below_alloc | apply pw_below_drewN | apply below_drew1) | exact HB.out)) hb); have n1_ := Aside0.mk (hbox); have n2_ := Aside0.mk ((by rw [hg]; exact (below_size (by repeat (first | (with_reducible first | exact HB.out | apply below_alloc | apply pw_below_drewN | apply below_drew1) | exact HB.out))) : w.heap.size ≤ gb324)); have n3_ := Aside0.mk ((by rw [hg]; exact (below_size (by repeat (first | (with_reducible first | exact HB.out | apply below_alloc | apply pw_below_drewN | apply below_drew1) | exact HB.out))) : w.heap.size ≤ gb324)); clear HB; have HB := n0_; have BK324 := n1_; have GW324 := n2_; have GE324 := n3_; clear n0_ n1_ n2_ n3_; clear hb hbox hg; have hcz7_0 : w6.cell? ⟨gb324, 0, none⟩ = some (.int .i64 a0_0) := (blk_cell BK324.out 0).trans rfl; have hcz7_1 : w6.cell? ⟨gb324, 1, none⟩ = some (.int .i64 a0_1) := (blk_cell BK324.out 1).trans rfl; have hcz7_2 : w6.cell? ⟨gb324, 2, none⟩ = some (.slice A0_2 l0_2.length c0_2) := (blk_cell BK324.out 2).trans rfl; have hcz7_3 : w6.cell? ⟨gb324, 3, none⟩ = some (.int .i64 a0_3) := (blk_cell BK324.out 3).trans rfl; have hcz7_4 : w6.cell? ⟨gb324, 4, none⟩ = some (.int .i64 a0_4) := (blk_cell BK324.out 4).trans rfl; have hcz7_5 : w6.cell? ⟨gb324, 5, none⟩ = some (.int .i64 a0_5) := (blk_cell BK324.out 5).trans rfl; have hcz7_6 : w6.cell? ⟨gb324, 6, none⟩ = some (.int .i64 a0_6) := (blk_cell BK324.out 6).trans rfl; have hcz7_7 : w6.cell? ⟨gb324, 7, none⟩ = some (.int .i64 a0_7) := (blk_cell BK324.out 7).trans rfl; have hcz7_8 : w6.cell? ⟨gb324, 8, none⟩ = some (.int .i64 a0_8) := (blk_cell BK324.out 8).trans rfl; have hfz7_0 := blk_frozen BK324.out 0; have hfz7_1 := blk_frozen BK324.out 1; have hfz7_2 := blk_frozen BK324.out 2; have hfz7_3 := blk_frozen BK324.out 3; have hfz7_4 := blk_frozen BK324.out 4; have hfz7_5 := blk_frozen BK324.out 5; have hfz7_6 := blk_frozen BK324.out 6; have hfz7_7 := blk_frozen BK324.out 7; have hfz7_8 := blk_frozen BK324.out 8) | (go_at_call 16; (refine (pylonlaw26_Long.calls a0_0 a0_1 _ _ l0_2 a0_3 a0_4 a0_5 a0_6 a0_7 a0_8 _ _ ([] : List Bool) true _ ?side1 ?side2 ?side3 ?side4 A3.out).mono ?_); (case side1 => repeat (first | exact (Kd.C_below HR0_2.out HB.out) | (with_reducible refine Kd.C_alloc ?_ _) | (with_reducible refine Kd.C_drewN ?_ _) | (with_reducible refine Kd.C_drew ?_))); (case side2 => exact HC0_2.out); (case side3 => exact Kd.C_nil _ _); (case side4 => exact Nat.le_refl _); rintro e w8 ⟨rfl, hb⟩; have n0_ := Aside0.mk (blk_below (g := gb324) (o := .cells #[.int .i64 a0_0, .int .i64 a0_1, .slice A0_2 l0_2.length c0_2, .int .i64 a0_3, .int .i64 a0_4, .int .i64 a0_5, .int .i64 a0_6, .int .i64 a0_7, .int .i64 a0_8] 24 (0, 0)) (by (with_reducible repeat (first | refine blk_drewN ?_ _ | refine blk_drew ?_ | refine blk_alloc ?_ _)); exact BK324.out) hb); have n1_ := Aside0.mk (below_step (by repeat (first | (with_reducible first | exact HB.out | apply below_alloc | apply pw_below_drewN | apply below_drew1 | refine below_set ?_ GE324.out) | exact HB.out)) hb); clear BK324; clear HB; have BK324 := n0_; have HB := n1_; clear n0_ n1_; (try clear hb); (try clear hb2); (try clear hk); (try clear hi)) | (go_at_call 17; (with_reducible refine (pylonlaw26_awake.calls  t326 _ A5.out).mono ?_); rintro e w9 ⟨rfl, hb⟩; have n0_ := Aside0.mk (blk_below (g := gb324) (o := .cells #[.int .i64 a0_0, .int .i64 a0_1, .slice A0_2 l0_2.length c0_2, .int .i64 a0_3, .int .i64 a0_4, .int .i64 a0_5, .int .i64 a0_6, .int .i64 a0_7, .int .i64 a0_8] 24 (0, 0)) (by (with_reducible repeat (first | refine blk_drewN ?_ _ | refine blk_drew ?_ | refine blk_alloc ?_ _)); exact BK324.out) hb); have n1_ := Aside0.mk (below_step (by repeat (first | (with_reducible first | exact HB.out | apply below_alloc | apply pw_below_drewN | apply below_drew1 | refine below_set ?_ GE324.out) | exact HB.out)) hb); clear BK324; clear HB; have BK324 := n0_; have HB := n1_; clear n0_ n1_; (try clear hb); (try clear hb2); (try clear hk); (try clear hi)))
    repeat (go_quiet (first | ((with_reducible refine gate_dst (N := 2) rfl ?_); refine box_event ?hg (N := 2) ?hd (cs := #[.int .i64 a0_0, .int .i64 a0_1, .slice A0_2 l0_2.length c0_2, .int .i64 a0_3, .int .i64 a0_4, .int .i64 a0_5, .int .i64 a0_6, .int .i64 a0_7, .int .i64 a0_8]) (t := 24) ?hr ?_; (case hd => rfl); (case hg => rfl); (case hr => first | (go_simp; done) | (go_simp; rfl)); intro gb324 hg w6 hbox hb; have n0_ := Aside0.mk (below_step (by repeat (first | (with_reducible first | exact HB.out | apply below_alloc | apply pw_below_drewN | apply below_drew1) | exact HB.out)) hb); have n1_ := Aside0.mk (hbox); have n2_ := Aside0.mk ((by rw [hg]; exact (below_size (by repeat (first | (with_reducible first | exact HB.out | apply below_alloc | apply pw_below_drewN | apply below_drew1) | exact HB.out))) : w.heap.size ≤ gb324)); have n3_ := Aside0.mk ((by rw [hg]; exact (below_size (by repeat (first | (with_reducible first | exact HB.out | apply below_alloc | apply pw_below_drewN | apply below_drew1) | exact HB.out))) : w.heap.size ≤ gb324)); clear HB; have HB := n0_; have BK324 := n1_; have GW324 := n2_; have GE324 := n3_; clear n0_ n1_ n2_ n3_; clear hb hbox hg; have hcz7_0 : w6.cell? ⟨gb324, 0, none⟩ = some (.int .i64 a0_0) := (blk_cell BK324.out 0).trans rfl; have hcz7_1 : w6.cell? ⟨gb324, 1, none⟩ = some (.int .i64 a0_1) := (blk_cell BK324.out 1).trans rfl; have hcz7_2 : w6.cell? ⟨gb324, 2, none⟩ = some (.slice A0_2 l0_2.length c0_2) := (blk_cell BK324.out 2).trans rfl; have hcz7_3 : w6.cell? ⟨gb324, 3, none⟩ = some (.int .i64 a0_3) := (blk_cell BK324.out 3).trans rfl; have hcz7_4 : w6.cell? ⟨gb324, 4, none⟩ = some (.int .i64 a0_4) := (blk_cell BK324.out 4).trans rfl; have hcz7_5 : w6.cell? ⟨gb324, 5, none⟩ = some (.int .i64 a0_5) := (blk_cell BK324.out 5).trans rfl; have hcz7_6 : w6.cell? ⟨gb324, 6, none⟩ = some (.int .i64 a0_6) := (blk_cell BK324.out 6).trans rfl; have hcz7_7 : w6.cell? ⟨gb324, 7, none⟩ = some (.int .i64 a0_7) := (blk_cell BK324.out 7).trans rfl; have hcz7_8 : w6.cell? ⟨gb324, 8, none⟩ = some (.int .i64 a0_8) := (blk_cell BK324.out 8).trans rfl; have hfz7_0 := blk_frozen BK324.out 0; have hfz7_1 := blk_frozen BK324.out 1; have hfz7_2 := blk_frozen BK324.out 2; have hfz7_3 := blk_frozen BK324.out 3; have hfz7_4 := blk_frozen BK324.out 4; have hfz7_5 := blk_frozen BK324.out 5; have hfz7_6 := blk_frozen BK324.out 6; have hfz7_7 := blk_frozen BK324.out 7; have hfz7_8 := blk_frozen BK324.out 8) | (go_at_call 16; (refine (pylonlaw26_Long.calls a0_0 a0_1 _ _ l0_2 a0_3 a0_4 a0_5 a0_6 a0_7 a0_8 _ _ ([] : List Bool) true _ ?side1 ?side2 ?side3 ?side4 A3.out).mono ?_); (case side1 => repeat (first | exact (Kd.C_below HR0_2.out HB.out) | (with_reducible refine Kd.C_alloc ?_ _) | (with_reducible refine Kd.C_drewN ?_ _) | (with_reducible refine Kd.C_drew ?_))); (case side2 => exact HC0_2.out); (case side3 => exact Kd.C_nil _ _); (case side4 => exact Nat.le_refl _); rintro e w8 ⟨rfl, hb⟩; have n0_ := Aside0.mk (blk_below (g := gb324) (o := .cells #[.int .i64 a0_0, .int .i64 a0_1, .slice A0_2 l0_2.length c0_2, .int .i64 a0_3, .int .i64 a0_4, .int .i64 a0_5, .int .i64 a0_6, .int .i64 a0_7, .int .i64 a0_8] 24 (0, 0)) (by (with_reducible repeat (first | refine blk_drewN ?_ _ | refine blk_drew ?_ | refine blk_alloc ?_ _)); exact BK324.out) hb); have n1_ := Aside0.mk (below_step (by repeat (first | (with_reducible first | exact HB.out | apply below_alloc | apply pw_below_drewN | apply below_drew1 | refine below_set ?_ GE324.out) | exact HB.out)) hb); clear BK324; clear HB; have BK324 := n0_; have HB := n1_; clear n0_ n1_; (try clear hb); (try clear hb2); (try clear hk); (try clear hi)) | (go_at_call 17; (with_reducible refine (pylonlaw26_awake.calls  t326 _ A5.out).mono ?_); rintro e w9 ⟨rfl, hb⟩; have n0_ := Aside0.mk (blk_below (g := gb324) (o := .cells #[.int .i64 a0_0, .int .i64 a0_1, .slice A0_2 l0_2.length c0_2, .int .i64 a0_3, .int .i64 a0_4, .int .i64 a0_5, .int .i64 a0_6, .int .i64 a0_7, .int .i64 a0_8] 24 (0, 0)) (by (with_reducible repeat (first | refine blk_drewN ?_ _ | refine blk_drew ?_ | refine blk_alloc ?_ _)); exact BK324.out) hb); have n1_ := Aside0.mk (below_step (by repeat (first | (with_reducible first | exact HB.out | apply below_alloc | apply pw_below_drewN | apply below_drew1 | refine below_set ?_ GE324.out) | exact HB.out)) hb); clear BK324; clear HB; have BK324 := n0_; have HB := n1_; clear n0_ n1_; (try clear hb); (try clear hb2); (try clear hk); (try clear hi))); try go_wp2_with (first | ((with_reducible refine gate_dst (N := 2) rfl ?_); refine box_event ?hg (N := 2) ?hd (cs := #[.int .i64 a0_0, .int .i64 a0_1, .slice A0_2 l0_2.length c0_2, .int .i64 a0_3, .int .i64 a0_4, .int .i64 a0_5, .int .i64 a0_6, .int .i64 a0_7, .int .i64 a0_8]) (t := 24) ?hr ?_; (case hd => rfl); (case hg => rfl); (case hr => first | (go_simp; done) | (go_simp; rfl)); intro gb324 hg w6 hbox hb; have n0_ := Aside0.mk (below_step (by repeat (first | (with_reducible first | exact HB.out | apply below_alloc | apply pw_below_drewN | apply below_drew1) | exact HB.out)) hb); have n1_ := Aside0.mk (hbox); have n2_ := Aside0.mk ((by rw [hg]; exact (below_size (by repeat (first | (with_reducible first | exact HB.out | apply below_alloc | apply pw_below_drewN | apply below_drew1) | exact HB.out))) : w.heap.size ≤ gb324)); have n3_ := Aside0.mk ((by rw [hg]; exact (below_size (by repeat (first | (with_reducible first | exact HB.out | apply below_alloc | apply pw_below_drewN | apply below_drew1) | exact HB.out))) : w.heap.size ≤ gb324)); clear HB; have HB := n0_; have BK324 := n1_; have GW324 := n2_; have GE324 := n3_; clear n0_ n1_ n2_ n3_; clear hb hbox hg; have hcz7_0 : w6.cell? ⟨gb324, 0, none⟩ = some (.int .i64 a0_0) := (blk_cell BK324.out 0).trans rfl; have hcz7_1 : w6.cell? ⟨gb324, 1, none⟩ = some (.int .i64 a0_1) := (blk_cell BK324.out 1).trans rfl; have hcz7_2 : w6.cell? ⟨gb324, 2, none⟩ = some (.slice A0_2 l0_2.length c0_2) := (blk_cell BK324.out 2).trans rfl; have hcz7_3 : w6.cell? ⟨gb324, 3, none⟩ = some (.int .i64 a0_3) := (blk_cell BK324.out 3).trans rfl; have hcz7_4 : w6.cell? ⟨gb324, 4, none⟩ = some (.int .i64 a0_4) := (blk_cell BK324.out 4).trans rfl; have hcz7_5 : w6.cell? ⟨gb324, 5, none⟩ = some (.int .i64 a0_5) := (blk_cell BK324.out 5).trans rfl; have hcz7_6 : w6.cell? ⟨gb324, 6, none⟩ = some (.int .i64 a0_6) := (blk_cell BK324.out 6).trans rfl; have hcz7_7 : w6.cell? ⟨gb324, 7, none⟩ = some (.int .i64 a0_7) := (blk_cell BK324.out 7).trans rfl; have hcz7_8 : w6.cell? ⟨gb324, 8, none⟩ = some (.int .i64 a0_8) := (blk_cell BK324.out 8).trans rfl; have hfz7_0 := blk_frozen BK324.out 0; have hfz7_1 := blk_frozen BK324.out 1; have hfz7_2 := blk_frozen BK324.out 2; have hfz7_3 := blk_frozen BK324.out 3; have hfz7_4 := blk_frozen BK324.out 4; have hfz7_5 := blk_frozen BK324.out 5; have hfz7_6 := blk_frozen BK324.out 6; have hfz7_7 := blk_frozen BK324.out 7; have hfz7_8 := blk_frozen BK324.out 8) | (go_at_call 16; (refine (pylonlaw26_Long.calls a0_0 a0_1 _ _ l0_2 a0_3 a0_4 a0_5 a0_6 a0_7 a0_8 _ _ ([] : List Bool) true _ ?side1 ?side2 ?side3 ?side4 A3.out).mono ?_); (case side1 => repeat (first | exact (Kd.C_below HR0_2.out HB.out) | (with_reducible refine Kd.C_alloc ?_ _) | (with_reducible refine Kd.C_drewN ?_ _) | (with_reducible refine Kd.C_drew ?_))); (case side2 => exact HC0_2.out); (case side3 => exact Kd.C_nil _ _); (case side4 => exact Nat.le_refl _); rintro e w8 ⟨rfl, hb⟩; have n0_ := Aside0.mk (blk_below (g := gb324) (o := .cells #[.int .i64 a0_0, .int .i64 a0_1, .slice A0_2 l0_2.length c0_2, .int .i64 a0_3, .int .i64 a0_4, .int .i64 a0_5, .int .i64 a0_6, .int .i64 a0_7, .int .i64 a0_8] 24 (0, 0)) (by (with_reducible repeat (first | refine blk_drewN ?_ _ | refine blk_drew ?_ | refine blk_alloc ?_ _)); exact BK324.out) hb); have n1_ := Aside0.mk (below_step (by repeat (first | (with_reducible first | exact HB.out | apply below_alloc | apply pw_below_drewN | apply below_drew1 | refine below_set ?_ GE324.out) | exact HB.out)) hb); clear BK324; clear HB; have BK324 := n0_; have HB := n1_; clear n0_ n1_; (try clear hb); (try clear hb2); (try clear hk); (try clear hi)) | (go_at_call 17; (with_reducible refine (pylonlaw26_awake.calls  t326 _ A5.out).mono ?_); rintro e w9 ⟨rfl, hb⟩; have n0_ := Aside0.mk (blk_below (g := gb324) (o := .cells #[.int .i64 a0_0, .int .i64 a0_1, .slice A0_2 l0_2.length c0_2, .int .i64 a0_3, .int .i64 a0_4, .int .i64 a0_5, .int .i64 a0_6, .int .i64 a0_7, .int .i64 a0_8] 24 (0, 0)) (by (with_reducible repeat (first | refine blk_drewN ?_ _ | refine blk_drew ?_ | refine blk_alloc ?_ _)); exact BK324.out) hb); have n1_ := Aside0.mk (below_step (by repeat (first | (with_reducible first | exact HB.out | apply below_alloc | apply pw_below_drewN | apply below_drew1 | refine below_set ?_ GE324.out) | exact HB.out)) hb); clear BK324; clear HB; have BK324 := n0_; have HB := n1_; clear n0_ n1_; (try clear hb); (try clear hb2); (try clear hk); (try clear hi))))
    go_ret
    exact ⟨by first | rfl | (simp [errW_none, errW_some] <;> rfl) | (simp [*, errW_none, errW_some] <;> rfl), by repeat (first | (with_reducible first | exact HB.out | apply below_alloc | apply pw_below_drewN | apply below_drew1 | refine below_set ?_ GE324.out) | exact HB.out)⟩
  replace c4 := Bool.eq_false_iff.mpr c4
  subst c4
  have H1 : ((pylonref26_Schedules.f k a0_0 a0_1 l0_2 a0_3 a0_4 a0_5 a0_6 a0_7 a0_8 a1).bind fun bt327 => (pylonlaw26_UnitSchedulesMatch.l0 k a1 bt327.1 bt327.2 0 a0_0 a0_1 l0_2 a0_3 a0_4 a0_5 a0_6 a0_7 a0_8)) = some r := by rw [if_neg (show ¬ (false = true) by decide)] at H; exact H
  clear H
  have H := H1
  clear H1
  replace H := Option.bind_eq_some_iff.mp H
  obtain ⟨⟨t327, t330⟩, A100, H⟩ := H
  replace H : (pylonlaw26_UnitSchedulesMatch.l0 k a1 t327 t330 0 a0_0 a0_1 l0_2 a0_3 a0_4 a0_5 a0_6 a0_7 a0_8) = some r := H
  have A10 := Aside0.mk A100
  clear A100
  have H' := Aside0.mk H
  clear H
  go_enter Try.func3, Try.ntmps3
  go_wp2_with (first | ((with_reducible refine gate_dst (N := 2) rfl ?_); refine box_event ?hg (N := 2) ?hd (cs := #[.int .i64 a0_0, .int .i64 a0_1, .slice A0_2 l0_2.length c0_2, .int .i64 a0_3, .int .i64 a0_4, .int .i64 a0_5, .int .i64 a0_6, .int .i64 a0_7, .int .i64 a0_8]) (t := 24) ?hr ?_; (case hd => rfl); (case hg => rfl); (case hr => first | (go_simp; done) | (go_simp; rfl)); intro gb324 hg w11 hbox hb; have n0_ := Aside0.mk (below_step (by repeat (first | (with_reducible first | exact HB.out | apply below_alloc | apply pw_below_drewN | apply below_drew1) | exact HB.out)) hb); have n1_ := Aside0.mk (hbox); have n2_ := Aside0.mk ((by rw [hg]; exact (below_size (by repeat (first | (with_reducible first | exact HB.out | apply below_alloc | apply pw_below_drewN | apply below_drew1) | exact HB.out))) : w.heap.size ≤ gb324)); have n3_ := Aside0.mk ((by rw [hg]; exact (below_size (by repeat (first | (with_reducible first | exact HB.out | apply below_alloc | apply pw_below_drewN | apply below_drew1) | exact HB.out))) : w.heap.size ≤ gb324)); clear HB; have HB := n0_; have BK324 := n1_; have GW324 := n2_; have GE324 := n3_; clear n0_ n1_ n2_ n3_; clear hb hbox hg; have hcz12_0 : w11.cell? ⟨gb324, 0, none⟩ = some (.int .i64 a0_0) := (blk_cell BK324.out 0).trans rfl; have hcz12_1 : w11.cell? ⟨gb324, 1, none⟩ = some (.int .i64 a0_1) := (blk_cell BK324.out 1).trans rfl; have hcz12_2 : w11.cell? ⟨gb324, 2, none⟩ = some (.slice A0_2 l0_2.length c0_2) := (blk_cell BK324.out 2).trans rfl; have hcz12_3 : w11.cell? ⟨gb324, 3, none⟩ = some (.int .i64 a0_3) := (blk_cell BK324.out 3).trans rfl; have hcz12_4 : w11.cell? ⟨gb324, 4, none⟩ = some (.int .i64 a0_4) := (blk_cell BK324.out 4).trans rfl; have hcz12_5 : w11.cell? ⟨gb324, 5, none⟩ = some (.int .i64 a0_5) := (blk_cell BK324.out 5).trans rfl; have hcz12_6 : w11.cell? ⟨gb324, 6, none⟩ = some (.int .i64 a0_6) := (blk_cell BK324.out 6).trans rfl; have hcz12_7 : w11.cell? ⟨gb324, 7, none⟩ = some (.int .i64 a0_7) := (blk_cell BK324.out 7).trans rfl; have hcz12_8 : w11.cell? ⟨gb324, 8, none⟩ = some (.int .i64 a0_8) := (blk_cell BK324.out 8).trans rfl; have hfz12_0 := blk_frozen BK324.out 0; have hfz12_1 := blk_frozen BK324.out 1; have hfz12_2 := blk_frozen BK324.out 2; have hfz12_3 := blk_frozen BK324.out 3; have hfz12_4 := blk_frozen BK324.out 4; have hfz12_5 := blk_frozen BK324.out 5; have hfz12_6 := blk_frozen BK324.out 6; have hfz12_7 := blk_frozen BK324.out 7; have hfz12_8 := blk_frozen BK324.out 8) | (go_at_call 16; (refine (pylonlaw26_Long.calls a0_0 a0_1 _ _ l0_2 a0_3 a0_4 a0_5 a0_6 a0_7 a0_8 _ _ ([] : List Bool) false _ ?side1 ?side2 ?side3 ?side4 A3.out).mono ?_); (case side1 => repeat (first | exact (Kd.C_below HR0_2.out HB.out) | (with_reducible refine Kd.C_alloc ?_ _) | (with_reducible refine Kd.C_drewN ?_ _) | (with_reducible refine Kd.C_drew ?_))); (case side2 => exact HC0_2.out); (case side3 => exact Kd.C_nil _ _); (case side4 => exact Nat.le_refl _); rintro e w13 ⟨rfl, hb⟩; have n0_ := Aside0.mk (blk_below (g := gb324) (o := .cells #[.int .i64 a0_0, .int .i64 a0_1, .slice A0_2 l0_2.length c0_2, .int .i64 a0_3, .int .i64 a0_4, .int .i64 a0_5, .int .i64 a0_6, .int .i64 a0_7, .int .i64 a0_8] 24 (0, 0)) (by (with_reducible repeat (first | refine blk_drewN ?_ _ | refine blk_drew ?_ | refine blk_alloc ?_ _)); exact BK324.out) hb); have n1_ := Aside0.mk (below_step (by repeat (first | (with_reducible first | exact HB.out | apply below_alloc | apply pw_below_drewN | apply below_drew1 | refine below_set ?_ GE324.out) | exact HB.out)) hb); clear BK324; clear HB; have BK324 := n0_; have HB := n1_; clear n0_ n1_; (try clear hb); (try clear hb2); (try clear hk); (try clear hi); have hcz14_0 : w13.cell? ⟨gb324, 0, none⟩ = some (.int .i64 a0_0) := (blk_cell BK324.out 0).trans rfl; have hcz14_1 : w13.cell? ⟨gb324, 1, none⟩ = some (.int .i64 a0_1) := (blk_cell BK324.out 1).trans rfl; have hcz14_2 : w13.cell? ⟨gb324, 2, none⟩ = some (.slice A0_2 l0_2.length c0_2) := (blk_cell BK324.out 2).trans rfl; have hcz14_3 : w13.cell? ⟨gb324, 3, none⟩ = some (.int .i64 a0_3) := (blk_cell BK324.out 3).trans rfl; have hcz14_4 : w13.cell? ⟨gb324, 4, none⟩ = some (.int .i64 a0_4) := (blk_cell BK324.out 4).trans rfl; have hcz14_5 : w13.cell? ⟨gb324, 5, none⟩ = some (.int .i64 a0_5) := (blk_cell BK324.out 5).trans rfl; have hcz14_6 : w13.cell? ⟨gb324, 6, none⟩ = some (.int .i64 a0_6) := (blk_cell BK324.out 6).trans rfl; have hcz14_7 : w13.cell? ⟨gb324, 7, none⟩ = some (.int .i64 a0_7) := (blk_cell BK324.out 7).trans rfl; have hcz14_8 : w13.cell? ⟨gb324, 8, none⟩ = some (.int .i64 a0_8) := (blk_cell BK324.out 8).trans rfl; have hfz14_0 := blk_frozen BK324.out 0; have hfz14_1 := blk_frozen BK324.out 1; have hfz14_2 := blk_frozen BK324.out 2; have hfz14_3 := blk_frozen BK324.out 3; have hfz14_4 := blk_frozen BK324.out 4; have hfz14_5 := blk_frozen BK324.out 5; have hfz14_6 := blk_frozen BK324.out 6; have hfz14_7 := blk_frozen BK324.out 7; have hfz14_8 := blk_frozen BK324.out 8) | (go_at_call 18; (with_reducible refine (pylonref26_Schedules.calls k a0_0 a0_1 _ _ l0_2 a0_3 a0_4 a0_5 a0_6 a0_7 a0_8 a1 t327 t330 _ ?side1 ?side2 A10.out).mono ?_); (case side1 => repeat (first | exact (Kd.C_below HR0_2.out HB.out) | (with_reducible refine Kd.C_alloc ?_ _) | (with_reducible refine Kd.C_drewN ?_ _) | (with_reducible refine Kd.C_drew ?_))); (case side2 => exact HC0_2.out); rintro e w15 ⟨v328, rfl, ho0, hb⟩; have n0_ := Aside0.mk (Kd.N_lower (Kd.N_mono (ok' := fun k_ => k_ ≠ gb324) ho0 (fun k_ hk_ => (Kd.freshB (g := gb324) (o := .cells #[.int .i64 a0_0, .int .i64 a0_1, .slice A0_2 l0_2.length c0_2, .int .i64 a0_3, .int .i64 a0_4, .int .i64 a0_5, .int .i64 a0_6, .int .i64 a0_7, .int .i64 a0_8] 24 (0, 0)) (by (with_reducible repeat (first | refine blk_drewN ?_ _ | refine blk_drew ?_ | refine blk_alloc ?_ _)); exact BK324.out) k_ hk_))) (below_size (by repeat (first | (with_reducible first | exact HB.out | apply below_alloc | apply pw_below_drewN | apply below_drew1 | refine below_set ?_ GE324.out) | exact HB.out)))); have n1_ := Aside0.mk (blk_below (g := gb324) (o := .cells #[.int .i64 a0_0, .int .i64 a0_1, .slice A0_2 l0_2.length c0_2, .int .i64 a0_3, .int .i64 a0_4, .int .i64 a0_5, .int .i64 a0_6, .int .i64 a0_7, .int .i64 a0_8] 24 (0, 0)) (by (with_reducible repeat (first | refine blk_drewN ?_ _ | refine blk_drew ?_ | refine blk_alloc ?_ _)); exact BK324.out) hb); have n2_ := Aside0.mk (below_step (by repeat (first | (with_reducible first | exact HB.out | apply below_alloc | apply pw_below_drewN | apply below_drew1 | refine below_set ?_ GE324.out) | exact HB.out)) hb); clear BK324; clear HB; have HO329 := n0_; have BK324 := n1_; have HB := n2_; clear n0_ n1_ n2_; (try clear hb); (try clear hb2); (try clear hk); (try clear hi); (try clear ho0)))
  repeat (go_quiet (first | ((with_reducible refine gate_dst (N := 2) rfl ?_); refine box_event ?hg (N := 2) ?hd (cs := #[.int .i64 a0_0, .int .i64 a0_1, .slice A0_2 l0_2.length c0_2, .int .i64 a0_3, .int .i64 a0_4, .int .i64 a0_5, .int .i64 a0_6, .int .i64 a0_7, .int .i64 a0_8]) (t := 24) ?hr ?_; (case hd => rfl); (case hg => rfl); (case hr => first | (go_simp; done) | (go_simp; rfl)); intro gb324 hg w11 hbox hb; have n0_ := Aside0.mk (below_step (by repeat (first | (with_reducible first | exact HB.out | apply below_alloc | apply pw_below_drewN | apply below_drew1) | exact HB.out)) hb); have n1_ := Aside0.mk (hbox); have n2_ := Aside0.mk ((by rw [hg]; exact (below_size (by repeat (first | (with_reducible first | exact HB.out | apply below_alloc | apply pw_below_drewN | apply below_drew1) | exact HB.out))) : w.heap.size ≤ gb324)); have n3_ := Aside0.mk ((by rw [hg]; exact (below_size (by repeat (first | (with_reducible first | exact HB.out | apply below_alloc | apply pw_below_drewN | apply below_drew1) | exact HB.out))) : w.heap.size ≤ gb324)); clear HB; have HB := n0_; have BK324 := n1_; have GW324 := n2_; have GE324 := n3_; clear n0_ n1_ n2_ n3_; clear hb hbox hg; have hcz12_0 : w11.cell? ⟨gb324, 0, none⟩ = some (.int .i64 a0_0) := (blk_cell BK324.out 0).trans rfl; have hcz12_1 : w11.cell? ⟨gb324, 1, none⟩ = some (.int .i64 a0_1) := (blk_cell BK324.out 1).trans rfl; have hcz12_2 : w11.cell? ⟨gb324, 2, none⟩ = some (.slice A0_2 l0_2.length c0_2) := (blk_cell BK324.out 2).trans rfl; have hcz12_3 : w11.cell? ⟨gb324, 3, none⟩ = some (.int .i64 a0_3) := (blk_cell BK324.out 3).trans rfl; have hcz12_4 : w11.cell? ⟨gb324, 4, none⟩ = some (.int .i64 a0_4) := (blk_cell BK324.out 4).trans rfl; have hcz12_5 : w11.cell? ⟨gb324, 5, none⟩ = some (.int .i64 a0_5) := (blk_cell BK324.out 5).trans rfl; have hcz12_6 : w11.cell? ⟨gb324, 6, none⟩ = some (.int .i64 a0_6) := (blk_cell BK324.out 6).trans rfl; have hcz12_7 : w11.cell? ⟨gb324, 7, none⟩ = some (.int .i64 a0_7) := (blk_cell BK324.out 7).trans rfl; have hcz12_8 : w11.cell? ⟨gb324, 8, none⟩ = some (.int .i64 a0_8) := (blk_cell BK324.out 8).trans rfl; have hfz12_0 := blk_frozen BK324.out 0; have hfz12_1 := blk_frozen BK324.out 1; have hfz12_2 := blk_frozen BK324.out 2; have hfz12_3 := blk_frozen BK324.out 3; have hfz12_4 := blk_frozen BK324.out 4; have hfz12_5 := blk_frozen BK324.out 5; have hfz12_6 := blk_frozen BK324.out 6; have hfz12_7 := blk_frozen BK324.out 7; have hfz12_8 := blk_frozen BK324.out 8) | (go_at_call 16; (refine (pylonlaw26_Long.calls a0_0 a0_1 _ _ l0_2 a0_3 a0_4 a0_5 a0_6 a0_7 a0_8 _ _ ([] : List Bool) false _ ?side1 ?side2 ?side3 ?side4 A3.out).mono ?_); (case side1 => repeat (first | exact (Kd.C_below HR0_2.out HB.out) | (with_reducible refine Kd.C_alloc ?_ _) | (with_reducible refine Kd.C_drewN ?_ _) | (with_reducible refine Kd.C_drew ?_))); (case side2 => exact HC0_2.out); (case side3 => exact Kd.C_nil _ _); (case side4 => exact Nat.le_refl _); rintro e w13 ⟨rfl, hb⟩; have n0_ := Aside0.mk (blk_below (g := gb324) (o := .cells #[.int .i64 a0_0, .int .i64 a0_1, .slice A0_2 l0_2.length c0_2, .int .i64 a0_3, .int .i64 a0_4, .int .i64 a0_5, .int .i64 a0_6, .int .i64 a0_7, .int .i64 a0_8] 24 (0, 0)) (by (with_reducible repeat (first | refine blk_drewN ?_ _ | refine blk_drew ?_ | refine blk_alloc ?_ _)); exact BK324.out) hb); have n1_ := Aside0.mk (below_step (by repeat (first | (with_reducible first | exact HB.out | apply below_alloc | apply pw_below_drewN | apply below_drew1 | refine below_set ?_ GE324.out) | exact HB.out)) hb); clear BK324; clear HB; have BK324 := n0_; have HB := n1_; clear n0_ n1_; (try clear hb); (try clear hb2); (try clear hk); (try clear hi); have hcz14_0 : w13.cell? ⟨gb324, 0, none⟩ = some (.int .i64 a0_0) := (blk_cell BK324.out 0).trans rfl; have hcz14_1 : w13.cell? ⟨gb324, 1, none⟩ = some (.int .i64 a0_1) := (blk_cell BK324.out 1).trans rfl; have hcz14_2 : w13.cell? ⟨gb324, 2, none⟩ = some (.slice A0_2 l0_2.length c0_2) := (blk_cell BK324.out 2).trans rfl; have hcz14_3 : w13.cell? ⟨gb324, 3, none⟩ = some (.int .i64 a0_3) := (blk_cell BK324.out 3).trans rfl; have hcz14_4 : w13.cell? ⟨gb324, 4, none⟩ = some (.int .i64 a0_4) := (blk_cell BK324.out 4).trans rfl; have hcz14_5 : w13.cell? ⟨gb324, 5, none⟩ = some (.int .i64 a0_5) := (blk_cell BK324.out 5).trans rfl; have hcz14_6 : w13.cell? ⟨gb324, 6, none⟩ = some (.int .i64 a0_6) := (blk_cell BK324.out 6).trans rfl; have hcz14_7 : w13.cell? ⟨gb324, 7, none⟩ = some (.int .i64 a0_7) := (blk_cell BK324.out 7).trans rfl; have hcz14_8 : w13.cell? ⟨gb324, 8, none⟩ = some (.int .i64 a0_8) := (blk_cell BK324.out 8).trans rfl; have hfz14_0 := blk_frozen BK324.out 0; have hfz14_1 := blk_frozen BK324.out 1; have hfz14_2 := blk_frozen BK324.out 2; have hfz14_3 := blk_frozen BK324.out 3; have hfz14_4 := blk_frozen BK324.out 4; have hfz14_5 := blk_frozen BK324.out 5; have hfz14_6 := blk_frozen BK324.out 6; have hfz14_7 := blk_frozen BK324.out 7; have hfz14_8 := blk_frozen BK324.out 8) | (go_at_call 18; (with_reducible refine (pylonref26_Schedules.calls k a0_0 a0_1 _ _ l0_2 a0_3 a0_4 a0_5 a0_6 a0_7 a0_8 a1 t327 t330 _ ?side1 ?side2 A10.out).mono ?_); (case side1 => repeat (first | exact (Kd.C_below HR0_2.out HB.out) | (with_reducible refine Kd.C_alloc ?_ _) | (with_reducible refine Kd.C_drewN ?_ _) | (with_reducible refine Kd.C_drew ?_))); (case side2 => exact HC0_2.out); rintro e w15 ⟨v328, rfl, ho0, hb⟩; have n0_ := Aside0.mk (Kd.N_lower (Kd.N_mono (ok' := fun k_ => k_ ≠ gb324) ho0 (fun k_ hk_ => (Kd.freshB (g := gb324) (o := .cells #[.int .i64 a0_0, .int .i64 a0_1, .slice A0_2 l0_2.length c0_2, .int .i64 a0_3, .int .i64 a0_4, .int .i64 a0_5, .int .i64 a0_6, .int .i64 a0_7, .int .i64 a0_8] 24 (0, 0)) (by (with_reducible repeat (first | refine blk_drewN ?_ _ | refine blk_drew ?_ | refine blk_alloc ?_ _)); exact BK324.out) k_ hk_))) (below_size (by repeat (first | (with_reducible first | exact HB.out | apply below_alloc | apply pw_below_drewN | apply below_drew1 | refine below_set ?_ GE324.out) | exact HB.out)))); have n1_ := Aside0.mk (blk_below (g := gb324) (o := .cells #[.int .i64 a0_0, .int .i64 a0_1, .slice A0_2 l0_2.length c0_2, .int .i64 a0_3, .int .i64 a0_4, .int .i64 a0_5, .int .i64 a0_6, .int .i64 a0_7, .int .i64 a0_8] 24 (0, 0)) (by (with_reducible repeat (first | refine blk_drewN ?_ _ | refine blk_drew ?_ | refine blk_alloc ?_ _)); exact BK324.out) hb); have n2_ := Aside0.mk (below_step (by repeat (first | (with_reducible first | exact HB.out | apply below_alloc | apply pw_below_drewN | apply below_drew1 | refine below_set ?_ GE324.out) | exact HB.out)) hb); clear BK324; clear HB; have HO329 := n0_; have BK324 := n1_; have HB := n2_; clear n0_ n1_ n2_; (try clear hb); (try clear hb2); (try clear hk); (try clear hi); (try clear ho0))); try go_wp2_with (first | ((with_reducible refine gate_dst (N := 2) rfl ?_); refine box_event ?hg (N := 2) ?hd (cs := #[.int .i64 a0_0, .int .i64 a0_1, .slice A0_2 l0_2.length c0_2, .int .i64 a0_3, .int .i64 a0_4, .int .i64 a0_5, .int .i64 a0_6, .int .i64 a0_7, .int .i64 a0_8]) (t := 24) ?hr ?_; (case hd => rfl); (case hg => rfl); (case hr => first | (go_simp; done) | (go_simp; rfl)); intro gb324 hg w11 hbox hb; have n0_ := Aside0.mk (below_step (by repeat (first | (with_reducible first | exact HB.out | apply below_alloc | apply pw_below_drewN | apply below_drew1) | exact HB.out)) hb); have n1_ := Aside0.mk (hbox); have n2_ := Aside0.mk ((by rw [hg]; exact (below_size (by repeat (first | (with_reducible first | exact HB.out | apply below_alloc | apply pw_below_drewN | apply below_drew1) | exact HB.out))) : w.heap.size ≤ gb324)); have n3_ := Aside0.mk ((by rw [hg]; exact (below_size (by repeat (first | (with_reducible first | exact HB.out | apply below_alloc | apply pw_below_drewN | apply below_drew1) | exact HB.out))) : w.heap.size ≤ gb324)); clear HB; have HB := n0_; have BK324 := n1_; have GW324 := n2_; have GE324 := n3_; clear n0_ n1_ n2_ n3_; clear hb hbox hg; have hcz12_0 : w11.cell? ⟨gb324, 0, none⟩ = some (.int .i64 a0_0) := (blk_cell BK324.out 0).trans rfl; have hcz12_1 : w11.cell? ⟨gb324, 1, none⟩ = some (.int .i64 a0_1) := (blk_cell BK324.out 1).trans rfl; have hcz12_2 : w11.cell? ⟨gb324, 2, none⟩ = some (.slice A0_2 l0_2.length c0_2) := (blk_cell BK324.out 2).trans rfl; have hcz12_3 : w11.cell? ⟨gb324, 3, none⟩ = some (.int .i64 a0_3) := (blk_cell BK324.out 3).trans rfl; have hcz12_4 : w11.cell? ⟨gb324, 4, none⟩ = some (.int .i64 a0_4) := (blk_cell BK324.out 4).trans rfl; have hcz12_5 : w11.cell? ⟨gb324, 5, none⟩ = some (.int .i64 a0_5) := (blk_cell BK324.out 5).trans rfl; have hcz12_6 : w11.cell? ⟨gb324, 6, none⟩ = some (.int .i64 a0_6) := (blk_cell BK324.out 6).trans rfl; have hcz12_7 : w11.cell? ⟨gb324, 7, none⟩ = some (.int .i64 a0_7) := (blk_cell BK324.out 7).trans rfl; have hcz12_8 : w11.cell? ⟨gb324, 8, none⟩ = some (.int .i64 a0_8) := (blk_cell BK324.out 8).trans rfl; have hfz12_0 := blk_frozen BK324.out 0; have hfz12_1 := blk_frozen BK324.out 1; have hfz12_2 := blk_frozen BK324.out 2; have hfz12_3 := blk_frozen BK324.out 3; have hfz12_4 := blk_frozen BK324.out 4; have hfz12_5 := blk_frozen BK324.out 5; have hfz12_6 := blk_frozen BK324.out 6; have hfz12_7 := blk_frozen BK324.out 7; have hfz12_8 := blk_frozen BK324.out 8) | (go_at_call 16; (refine (pylonlaw26_Long.calls a0_0 a0_1 _ _ l0_2 a0_3 a0_4 a0_5 a0_6 a0_7 a0_8 _ _ ([] : List Bool) false _ ?side1 ?side2 ?side3 ?side4 A3.out).mono ?_); (case side1 => repeat (first | exact (Kd.C_below HR0_2.out HB.out) | (with_reducible refine Kd.C_alloc ?_ _) | (with_reducible refine Kd.C_drewN ?_ _) | (with_reducible refine Kd.C_drew ?_))); (case side2 => exact HC0_2.out); (case side3 => exact Kd.C_nil _ _); (case side4 => exact Nat.le_refl _); rintro e w13 ⟨rfl, hb⟩; have n0_ := Aside0.mk (blk_below (g := gb324) (o := .cells #[.int .i64 a0_0, .int .i64 a0_1, .slice A0_2 l0_2.length c0_2, .int .i64 a0_3, .int .i64 a0_4, .int .i64 a0_5, .int .i64 a0_6, .int .i64 a0_7, .int .i64 a0_8] 24 (0, 0)) (by (with_reducible repeat (first | refine blk_drewN ?_ _ | refine blk_drew ?_ | refine blk_alloc ?_ _)); exact BK324.out) hb); have n1_ := Aside0.mk (below_step (by repeat (first | (with_reducible first | exact HB.out | apply below_alloc | apply pw_below_drewN | apply below_drew1 | refine below_set ?_ GE324.out) | exact HB.out)) hb); clear BK324; clear HB; have BK324 := n0_; have HB := n1_; clear n0_ n1_; (try clear hb); (try clear hb2); (try clear hk); (try clear hi); have hcz14_0 : w13.cell? ⟨gb324, 0, none⟩ = some (.int .i64 a0_0) := (blk_cell BK324.out 0).trans rfl; have hcz14_1 : w13.cell? ⟨gb324, 1, none⟩ = some (.int .i64 a0_1) := (blk_cell BK324.out 1).trans rfl; have hcz14_2 : w13.cell? ⟨gb324, 2, none⟩ = some (.slice A0_2 l0_2.length c0_2) := (blk_cell BK324.out 2).trans rfl; have hcz14_3 : w13.cell? ⟨gb324, 3, none⟩ = some (.int .i64 a0_3) := (blk_cell BK324.out 3).trans rfl; have hcz14_4 : w13.cell? ⟨gb324, 4, none⟩ = some (.int .i64 a0_4) := (blk_cell BK324.out 4).trans rfl; have hcz14_5 : w13.cell? ⟨gb324, 5, none⟩ = some (.int .i64 a0_5) := (blk_cell BK324.out 5).trans rfl; have hcz14_6 : w13.cell? ⟨gb324, 6, none⟩ = some (.int .i64 a0_6) := (blk_cell BK324.out 6).trans rfl; have hcz14_7 : w13.cell? ⟨gb324, 7, none⟩ = some (.int .i64 a0_7) := (blk_cell BK324.out 7).trans rfl; have hcz14_8 : w13.cell? ⟨gb324, 8, none⟩ = some (.int .i64 a0_8) := (blk_cell BK324.out 8).trans rfl; have hfz14_0 := blk_frozen BK324.out 0; have hfz14_1 := blk_frozen BK324.out 1; have hfz14_2 := blk_frozen BK324.out 2; have hfz14_3 := blk_frozen BK324.out 3; have hfz14_4 := blk_frozen BK324.out 4; have hfz14_5 := blk_frozen BK324.out 5; have hfz14_6 := blk_frozen BK324.out 6; have hfz14_7 := blk_frozen BK324.out 7; have hfz14_8 := blk_frozen BK324.out 8) | (go_at_call 18; (with_reducible refine (pylonref26_Schedules.calls k a0_0 a0_1 _ _ l0_2 a0_3 a0_4 a0_5 a0_6 a0_7 a0_8 a1 t327 t330 _ ?side1 ?side2 A10.out).mono ?_); (case side1 => repeat (first | exact (Kd.C_below HR0_2.out HB.out) | (with_reducible refine Kd.C_alloc ?_ _) | (with_reducible refine Kd.C_drewN ?_ _) | (with_reducible refine Kd.C_drew ?_))); (case side2 => exact HC0_2.out); rintro e w15 ⟨v328, rfl, ho0, hb⟩; have n0_ := Aside0.mk (Kd.N_lower (Kd.N_mono (ok' := fun k_ => k_ ≠ gb324) ho0 (fun k_ hk_ => (Kd.freshB (g := gb324) (o := .cells #[.int .i64 a0_0, .int .i64 a0_1, .slice A0_2 l0_2.length c0_2, .int .i64 a0_3, .int .i64 a0_4, .int .i64 a0_5, .int .i64 a0_6, .int .i64 a0_7, .int .i64 a0_8] 24 (0, 0)) (by (with_reducible repeat (first | refine blk_drewN ?_ _ | refine blk_drew ?_ | refine blk_alloc ?_ _)); exact BK324.out) k_ hk_))) (below_size (by repeat (first | (with_reducible first | exact HB.out | apply below_alloc | apply pw_below_drewN | apply below_drew1 | refine below_set ?_ GE324.out) | exact HB.out)))); have n1_ := Aside0.mk (blk_below (g := gb324) (o := .cells #[.int .i64 a0_0, .int .i64 a0_1, .slice A0_2 l0_2.length c0_2, .int .i64 a0_3, .int .i64 a0_4, .int .i64 a0_5, .int .i64 a0_6, .int .i64 a0_7, .int .i64 a0_8] 24 (0, 0)) (by (with_reducible repeat (first | refine blk_drewN ?_ _ | refine blk_drew ?_ | refine blk_alloc ?_ _)); exact BK324.out) hb); have n2_ := Aside0.mk (below_step (by repeat (first | (with_reducible first | exact HB.out | apply below_alloc | apply pw_below_drewN | apply below_drew1 | refine below_set ?_ GE324.out) | exact HB.out)) hb); clear BK324; clear HB; have HO329 := n0_; have BK324 := n1_; have HB := n2_; clear n0_ n1_ n2_; (try clear hb); (try clear hb2); (try clear hk); (try clear hi); (try clear ho0))))
  go_loopg [7] k (fun kq v7 w' => ∃ (x7_1 : Int), v7 = .int .i64 x7_1 ∧ Aside0 (pylonlaw26_UnitSchedulesMatch.l0 kq a1 t327 t330 x7_1 a0_0 a0_1 l0_2 a0_3 a0_4 a0_5 a0_6 a0_7 a0_8 = some r) ∧ Aside0 (kq ≤ k) ∧ Aside0 (Kd.N (Kd.slice 4 Kd.bool) 32 w' w.heap.size (fun k_ => k_ ≠ gb324) v328 t327) ∧ Aside0 (w'.heap[gb324]? = some (.cells #[.int .i64 a0_0, .int .i64 a0_1, (.slice A0_2 l0_2.length c0_2), .int .i64 a0_3, .int .i64 a0_4, .int .i64 a0_5, .int .i64 a0_6, .int .i64 a0_7, .int .i64 a0_8] 24 (0, 0))) ∧ Aside0 (Below w.heap.size w w'))
  case atStart => exact ⟨(0), (by first | rfl | (simp; done) | (simp [*]; done)), H', ⟨Nat.le_refl _⟩, ⟨by (with_reducible repeat (first | apply Kd.N_alloc | apply Kd.N_drewN | apply Kd.N_drew)); exact HO329.out⟩, ⟨by (with_reducible repeat (first | refine blk_drewN ?_ _ | refine blk_drew ?_ | refine blk_alloc ?_ _)); exact BK324.out⟩, ⟨by repeat (first | (with_reducible first | exact HB.out | apply below_alloc | apply pw_below_drewN | apply below_drew1 | refine below_set ?_ GE324.out) | exact HB.out)⟩⟩
  case round =>
    clear H'
    try clear p2; try clear c3; try clear c4; try clear hcz12_0; try clear hcz12_1; try clear hcz12_2; try clear hcz12_3; try clear hcz12_4; try clear hcz12_5; try clear hcz12_6; try clear hcz12_7; try clear hcz12_8; try clear hcz14_0; try clear hcz14_1; try clear hcz14_2; try clear hcz14_3; try clear hcz14_4; try clear hcz14_5; try clear hcz14_6; try clear hcz14_7; try clear hcz14_8; try clear hcz7_0; try clear hcz7_1; try clear hcz7_2; try clear hcz7_3; try clear hcz7_4; try clear hcz7_5; try clear hcz7_6; try clear hcz7_7; try clear hcz7_8; try clear hfz12_0; try clear hfz12_1; try clear hfz12_2; try clear hfz12_3; try clear hfz12_4; try clear hfz12_5; try clear hfz12_6; try clear hfz12_7; try clear hfz12_8; try clear hfz14_0; try clear hfz14_1; try clear hfz14_2; try clear hfz14_3; try clear hfz14_4; try clear hfz14_5; try clear hfz14_6; try clear hfz14_7; try clear hfz14_8; try clear hfz7_0; try clear hfz7_1; try clear hfz7_2; try clear hfz7_3; try clear hfz7_4; try clear hfz7_5; try clear hfz7_6; try clear hfz7_7; try clear hfz7_8
    obtain ⟨x7_1, rfl, HA, HK1, HO_5, BK324, HB⟩ := hrel
    cases gk with
    | zero => exact absurd HA.out (by simp [pylonlaw26_UnitSchedulesMatch.l0])
    | succ k1 =>
      have H := HA.out
      clear HA
      simp only [pylonlaw26_UnitSchedulesMatch.l0] at H
      obtain ⟨B, hB_⟩ : ∃ B, B = wr.heap.size := ⟨_, rfl⟩
      have GB := Aside0.mk (show w.heap.size ≤ B by rw [hB_]; exact HB.out.size)
      have GG := Aside0.mk (show gb324 < B by rw [hB_]; exact blk_lt BK324.out)
      by_cases c16 : x7_1 < 2
      · rw [if_pos c16] at H
        have c16b0 : decide (x7_1 < 2) = true := decide_eq_true c16
        clear c16
        replace H := Option.bind_eq_some_iff.mp H
        obtain ⟨⟨t332, t335⟩, A170, H⟩ := H
        replace H : (if t330 = t335 then ((pylonref26_SameAll.f k1 t332 t327).bind fun t336 => (pylonlaw26_UnitSchedulesMatch.j1 k1 a1 t327 t330 x7_1 t332 (!t336) a0_0 a0_1 l0_2 a0_3 a0_4 a0_5 a0_6 a0_7 a0_8)) else (pylonlaw26_UnitSchedulesMatch.j1 k1 a1 t327 t330 x7_1 t332 true a0_0 a0_1 l0_2 a0_3 a0_4 a0_5 a0_6 a0_7 a0_8)) = some r := H
        have A17 := Aside0.mk A170
        clear A170
        have HC18 := Aside0.mk H
        clear H
        obtain ⟨hcz19_0, hcz19_1, hcz19_2, hcz19_3, hcz19_4, hcz19_5, hcz19_6, hcz19_7, hcz19_8⟩ := cells9 BK324.out
        obtain ⟨hfz19_0, hfz19_1, hfz19_2, hfz19_3, hfz19_4, hfz19_5, hfz19_6, hfz19_7, hfz19_8⟩ := froz9 BK324.out
        go_upto_region 8 with (first | (go_at_call 19; (with_reducible refine (unit_Schedules.calls a0_0 a0_1 _ _ l0_2 a0_3 a0_4 a0_5 a0_6 a0_7 a0_8 a1 t332 t335 _ ?side1 ?side2 A17.out).mono ?_); (case side1 => repeat (first | exact (Kd.C_below HR0_2.out HB.out) | (with_reducible refine Kd.C_alloc ?_ _) | (with_reducible refine Kd.C_drewN ?_ _) | (with_reducible refine Kd.C_drew ?_))); (case side2 => exact HC0_2.out); rintro e w20 ⟨v333, rfl, ho0, hb⟩; have HW5 := Aside0.mk (Kd.N_below (Kd.N_mono (ok' := fun k_ => k_ < B ∧ k_ ≠ gb324) (Kd.N_bound (by (with_reducible repeat (first | apply Kd.N_alloc | apply Kd.N_drewN | apply Kd.N_drew)); exact HO_5.out)) (fun k_ hk_ => ⟨by rw [hB_]; exact hk_.2, hk_.1⟩)) hb); have HF8 := Aside0.mk (show Flip w20 B v333 t332 by rw [hB_]; exact flip_of ho0); have n0_ := Aside0.mk (Kd.N_elder' (by (with_reducible repeat (first | apply Kd.N_alloc | apply Kd.N_drewN | apply Kd.N_drew)); exact HO_5.out) (Kd.N_base (Kd.S_N ho0)) hb); have n1_ := Aside0.mk (Kd.N_lower (Kd.N_mono (ok' := fun k_ => some k_ ≠ (v328 : Value).ownBlock ∧ k_ ≠ gb324) (Kd.S_N (Kd.S_bound ho0)) (fun k_ hk_ => ⟨(Kd.fresh' (Kd.N_lt (by (with_reducible repeat (first | apply Kd.N_alloc | apply Kd.N_drewN | apply Kd.N_drew)); exact HO_5.out)) k_ hk_.2.1), (Kd.freshB (g := gb324) (o := .cells #[.int .i64 a0_0, .int .i64 a0_1, .slice A0_2 l0_2.length c0_2, .int .i64 a0_3, .int .i64 a0_4, .int .i64 a0_5, .int .i64 a0_6, .int .i64 a0_7, .int .i64 a0_8] 24 (0, 0)) (by (with_reducible repeat (first | refine blk_drewN ?_ _ | refine blk_drew ?_ | refine blk_alloc ?_ _)); exact BK324.out) k_ hk_.2.1)⟩)) (below_size (by repeat (first | (with_reducible first | exact HB.out | apply below_alloc | apply pw_below_drewN | apply below_drew1 | refine below_set ?_ GE324.out) | exact HB.out)))); have n2_ := Aside0.mk (blk_below (g := gb324) (o := .cells #[.int .i64 a0_0, .int .i64 a0_1, .slice A0_2 l0_2.length c0_2, .int .i64 a0_3, .int .i64 a0_4, .int .i64 a0_5, .int .i64 a0_6, .int .i64 a0_7, .int .i64 a0_8] 24 (0, 0)) (by (with_reducible repeat (first | refine blk_drewN ?_ _ | refine blk_drew ?_ | refine blk_alloc ?_ _)); exact BK324.out) hb); have n3_ := Aside0.mk (below_step (by repeat (first | (with_reducible first | exact HB.out | apply below_alloc | apply pw_below_drewN | apply below_drew1 | refine below_set ?_ GE324.out) | exact HB.out)) hb); clear HO_5; clear BK324; clear HB; have HO_5 := n0_; have HO334 := n1_; have BK324 := n2_; have HB := n3_; clear n0_ n1_ n2_ n3_; (try clear hb); (try clear hb2); (try clear hk); (try clear hi); (try clear ho0)))
        repeat (go_quiet (first | (go_at_call 19; (with_reducible refine (unit_Schedules.calls a0_0 a0_1 _ _ l0_2 a0_3 a0_4 a0_5 a0_6 a0_7 a0_8 a1 t332 t335 _ ?side1 ?side2 A17.out).mono ?_); (case side1 => repeat (first | exact (Kd.C_below HR0_2.out HB.out) | (with_reducible refine Kd.C_alloc ?_ _) | (with_reducible refine Kd.C_drewN ?_ _) | (with_reducible refine Kd.C_drew ?_))); (case side2 => exact HC0_2.out); rintro e w20 ⟨v333, rfl, ho0, hb⟩; have HW5 := Aside0.mk (Kd.N_below (Kd.N_mono (ok' := fun k_ => k_ < B ∧ k_ ≠ gb324) (Kd.N_bound (by (with_reducible repeat (first | apply Kd.N_alloc | apply Kd.N_drewN | apply Kd.N_drew)); exact HO_5.out)) (fun k_ hk_ => ⟨by rw [hB_]; exact hk_.2, hk_.1⟩)) hb); have HF8 := Aside0.mk (show Flip w20 B v333 t332 by rw [hB_]; exact flip_of ho0); have n0_ := Aside0.mk (Kd.N_elder' (by (with_reducible repeat (first | apply Kd.N_alloc | apply Kd.N_drewN | apply Kd.N_drew)); exact HO_5.out) (Kd.N_base (Kd.S_N ho0)) hb); have n1_ := Aside0.mk (Kd.N_lower (Kd.N_mono (ok' := fun k_ => some k_ ≠ (v328 : Value).ownBlock ∧ k_ ≠ gb324) (Kd.S_N (Kd.S_bound ho0)) (fun k_ hk_ => ⟨(Kd.fresh' (Kd.N_lt (by (with_reducible repeat (first | apply Kd.N_alloc | apply Kd.N_drewN | apply Kd.N_drew)); exact HO_5.out)) k_ hk_.2.1), (Kd.freshB (g := gb324) (o := .cells #[.int .i64 a0_0, .int .i64 a0_1, .slice A0_2 l0_2.length c0_2, .int .i64 a0_3, .int .i64 a0_4, .int .i64 a0_5, .int .i64 a0_6, .int .i64 a0_7, .int .i64 a0_8] 24 (0, 0)) (by (with_reducible repeat (first | refine blk_drewN ?_ _ | refine blk_drew ?_ | refine blk_alloc ?_ _)); exact BK324.out) k_ hk_.2.1)⟩)) (below_size (by repeat (first | (with_reducible first | exact HB.out | apply below_alloc | apply pw_below_drewN | apply below_drew1 | refine below_set ?_ GE324.out) | exact HB.out)))); have n2_ := Aside0.mk (blk_below (g := gb324) (o := .cells #[.int .i64 a0_0, .int .i64 a0_1, .slice A0_2 l0_2.length c0_2, .int .i64 a0_3, .int .i64 a0_4, .int .i64 a0_5, .int .i64 a0_6, .int .i64 a0_7, .int .i64 a0_8] 24 (0, 0)) (by (with_reducible repeat (first | refine blk_drewN ?_ _ | refine blk_drew ?_ | refine blk_alloc ?_ _)); exact BK324.out) hb); have n3_ := Aside0.mk (below_step (by repeat (first | (with_reducible first | exact HB.out | apply below_alloc | apply pw_below_drewN | apply below_drew1 | refine below_set ?_ GE324.out) | exact HB.out)) hb); clear HO_5; clear BK324; clear HB; have HO_5 := n0_; have HO334 := n1_; have BK324 := n2_; have HB := n3_; clear n0_ n1_ n2_ n3_; (try clear hb); (try clear hb2); (try clear hk); (try clear hi); (try clear ho0))); go_upto_region 8 with (first | (go_at_call 19; (with_reducible refine (unit_Schedules.calls a0_0 a0_1 _ _ l0_2 a0_3 a0_4 a0_5 a0_6 a0_7 a0_8 a1 t332 t335 _ ?side1 ?side2 A17.out).mono ?_); (case side1 => repeat (first | exact (Kd.C_below HR0_2.out HB.out) | (with_reducible refine Kd.C_alloc ?_ _) | (with_reducible refine Kd.C_drewN ?_ _) | (with_reducible refine Kd.C_drew ?_))); (case side2 => exact HC0_2.out); rintro e w20 ⟨v333, rfl, ho0, hb⟩; have HW5 := Aside0.mk (Kd.N_below (Kd.N_mono (ok' := fun k_ => k_ < B ∧ k_ ≠ gb324) (Kd.N_bound (by (with_reducible repeat (first | apply Kd.N_alloc | apply Kd.N_drewN | apply Kd.N_drew)); exact HO_5.out)) (fun k_ hk_ => ⟨by rw [hB_]; exact hk_.2, hk_.1⟩)) hb); have HF8 := Aside0.mk (show Flip w20 B v333 t332 by rw [hB_]; exact flip_of ho0); have n0_ := Aside0.mk (Kd.N_elder' (by (with_reducible repeat (first | apply Kd.N_alloc | apply Kd.N_drewN | apply Kd.N_drew)); exact HO_5.out) (Kd.N_base (Kd.S_N ho0)) hb); have n1_ := Aside0.mk (Kd.N_lower (Kd.N_mono (ok' := fun k_ => some k_ ≠ (v328 : Value).ownBlock ∧ k_ ≠ gb324) (Kd.S_N (Kd.S_bound ho0)) (fun k_ hk_ => ⟨(Kd.fresh' (Kd.N_lt (by (with_reducible repeat (first | apply Kd.N_alloc | apply Kd.N_drewN | apply Kd.N_drew)); exact HO_5.out)) k_ hk_.2.1), (Kd.freshB (g := gb324) (o := .cells #[.int .i64 a0_0, .int .i64 a0_1, .slice A0_2 l0_2.length c0_2, .int .i64 a0_3, .int .i64 a0_4, .int .i64 a0_5, .int .i64 a0_6, .int .i64 a0_7, .int .i64 a0_8] 24 (0, 0)) (by (with_reducible repeat (first | refine blk_drewN ?_ _ | refine blk_drew ?_ | refine blk_alloc ?_ _)); exact BK324.out) k_ hk_.2.1)⟩)) (below_size (by repeat (first | (with_reducible first | exact HB.out | apply below_alloc | apply pw_below_drewN | apply below_drew1 | refine below_set ?_ GE324.out) | exact HB.out)))); have n2_ := Aside0.mk (blk_below (g := gb324) (o := .cells #[.int .i64 a0_0, .int .i64 a0_1, .slice A0_2 l0_2.length c0_2, .int .i64 a0_3, .int .i64 a0_4, .int .i64 a0_5, .int .i64 a0_6, .int .i64 a0_7, .int .i64 a0_8] 24 (0, 0)) (by (with_reducible repeat (first | refine blk_drewN ?_ _ | refine blk_drew ?_ | refine blk_alloc ?_ _)); exact BK324.out) hb); have n3_ := Aside0.mk (below_step (by repeat (first | (with_reducible first | exact HB.out | apply below_alloc | apply pw_below_drewN | apply below_drew1 | refine below_set ?_ GE324.out) | exact HB.out)) hb); clear HO_5; clear BK324; clear HB; have HO_5 := n0_; have HO334 := n1_; have BK324 := n2_; have HB := n3_; clear n0_ n1_ n2_ n3_; (try clear hb); (try clear hb2); (try clear hk); (try clear hi); (try clear ho0))))
        (try simp only [Act.put, List.setIfInBounds_toArray, List.set_cons_zero, List.set_cons_succ])
        go_cut [39] (fun v39 wc => ∃ (kq : Nat) (x39_17 : Bool), v39 = .bool x39_17 ∧ Aside0 (pylonlaw26_UnitSchedulesMatch.j1 kq a1 t327 t330 x7_1 t332 x39_17 a0_0 a0_1 l0_2 a0_3 a0_4 a0_5 a0_6 a0_7 a0_8 = some r) ∧ Aside0 (kq ≤ k1) ∧ Aside0 (Kd.N (Kd.slice 4 Kd.bool) 32 wc w.heap.size (fun k_ => k_ < B ∧ k_ ≠ gb324) v328 t327) ∧ Aside0 (Flip wc B v333 t332) ∧ Aside0 (wc.heap[gb324]? = some (.cells #[.int .i64 a0_0, .int .i64 a0_1, (.slice A0_2 l0_2.length c0_2), .int .i64 a0_3, .int .i64 a0_4, .int .i64 a0_5, .int .i64 a0_6, .int .i64 a0_7, .int .i64 a0_8] 24 (0, 0))) ∧ Aside0 (Below w.heap.size w wc))
        case first =>
          have H := HC18.out
          clear HC18
          by_cases c21 : t330 = t335
          · rw [if_pos c21] at H
            have c21b0 : (t330 == t335) = true := beq_iff_eq.mpr c21
            have c21b1 : (t330 != t335) = false := bne_eq_false_iff_eq.mpr c21
            clear c21
            (first | rw [c21b0] | (simp only [i64_w, i32_w]; rw [c21b0]) | skip)
            replace H := Option.bind_eq_some_iff.mp H
            obtain ⟨t336, A220, H⟩ := H
            replace H : (pylonlaw26_UnitSchedulesMatch.j1 k1 a1 t327 t330 x7_1 t332 (!t336) a0_0 a0_1 l0_2 a0_3 a0_4 a0_5 a0_6 a0_7 a0_8) = some r := H
            have A22 := Aside0.mk A220
            clear A220
            have H' := Aside0.mk H
            clear H
            obtain ⟨Ao23, co23, eo23⟩ := Kd.N_slice HO334.out
            subst eo23
            obtain ⟨Ao24, co24, eo24⟩ := Kd.N_slice HO_5.out
            subst eo24
            go_wp2_with (first | (go_at_call 20; (with_reducible refine (pylonref26_SameAll.calls k1 _ _ t332 _ _ t327 t336 _ ?side1 ?side2 ?side3 ?side4 A22.out).mono ?_); (case side1 => repeat (first | exact (Kd.N_reads' HO334.out).2.2 | (with_reducible refine Kd.C_alloc ?_ _) | (with_reducible refine Kd.C_drewN ?_ _) | (with_reducible refine Kd.C_drew ?_))); (case side2 => exact (Kd.N_reads' HO334.out).2.1); (case side3 => repeat (first | exact (Kd.N_reads' HO_5.out).2.2 | (with_reducible refine Kd.C_alloc ?_ _) | (with_reducible refine Kd.C_drewN ?_ _) | (with_reducible refine Kd.C_drew ?_))); (case side4 => exact (Kd.N_reads' HO_5.out).2.1); rintro e w' ⟨rfl, ⟨nd, rfl⟩⟩; (try first | exact ⟨rfl, _, World.drewN_drewN _ _ _⟩ | exact ⟨rfl, _, Eq.trans (World.drewN_drewN _ _ _) (congrArg (World.drewN _) (Nat.add_assoc _ _ _))⟩)))
            repeat (go_quiet (first | (go_at_call 20; (with_reducible refine (pylonref26_SameAll.calls k1 _ _ t332 _ _ t327 t336 _ ?side1 ?side2 ?side3 ?side4 A22.out).mono ?_); (case side1 => repeat (first | exact (Kd.N_reads' HO334.out).2.2 | (with_reducible refine Kd.C_alloc ?_ _) | (with_reducible refine Kd.C_drewN ?_ _) | (with_reducible refine Kd.C_drew ?_))); (case side2 => exact (Kd.N_reads' HO334.out).2.1); (case side3 => repeat (first | exact (Kd.N_reads' HO_5.out).2.2 | (with_reducible refine Kd.C_alloc ?_ _) | (with_reducible refine Kd.C_drewN ?_ _) | (with_reducible refine Kd.C_drew ?_))); (case side4 => exact (Kd.N_reads' HO_5.out).2.1); rintro e w' ⟨rfl, ⟨nd, rfl⟩⟩; (try first | exact ⟨rfl, _, World.drewN_drewN _ _ _⟩ | exact ⟨rfl, _, Eq.trans (World.drewN_drewN _ _ _) (congrArg (World.drewN _) (Nat.add_assoc _ _ _))⟩))); try go_wp2_with (first | (go_at_call 20; (with_reducible refine (pylonref26_SameAll.calls k1 _ _ t332 _ _ t327 t336 _ ?side1 ?side2 ?side3 ?side4 A22.out).mono ?_); (case side1 => repeat (first | exact (Kd.N_reads' HO334.out).2.2 | (with_reducible refine Kd.C_alloc ?_ _) | (with_reducible refine Kd.C_drewN ?_ _) | (with_reducible refine Kd.C_drew ?_))); (case side2 => exact (Kd.N_reads' HO334.out).2.1); (case side3 => repeat (first | exact (Kd.N_reads' HO_5.out).2.2 | (with_reducible refine Kd.C_alloc ?_ _) | (with_reducible refine Kd.C_drewN ?_ _) | (with_reducible refine Kd.C_drew ?_))); (case side4 => exact (Kd.N_reads' HO_5.out).2.1); rintro e w' ⟨rfl, ⟨nd, rfl⟩⟩; (try first | exact ⟨rfl, _, World.drewN_drewN _ _ _⟩ | exact ⟨rfl, _, Eq.trans (World.drewN_drewN _ _ _) (congrArg (World.drewN _) (Nat.add_assoc _ _ _))⟩))))
            go_meet
            case rel => exact ⟨_, (!t336), (by first | rfl | (simp; done) | (simp [*]; done)), H', ⟨by have := HK1.out; first | omega | exact Nat.le_refl _⟩, ⟨by (with_reducible repeat (first | apply Kd.N_alloc | apply Kd.N_drewN | apply Kd.N_drew)); exact HW5.out⟩, ⟨by (with_reducible repeat (first | apply Flip.drewN | apply Flip.drew)); exact HF8.out⟩, ⟨by (with_reducible repeat (first | refine blk_drewN ?_ _ | refine blk_drew ?_ | refine blk_alloc ?_ _)); exact BK324.out⟩, ⟨by repeat (first | (with_reducible first | exact HB.out | apply below_alloc | apply pw_below_drewN | apply below_drew1 | refine below_set ?_ GE324.out) | exact HB.out)⟩⟩
          rw [if_neg c21] at H
          have c21b0 : (t330 == t335) = false := beq_eq_false_iff_ne.mpr c21
          have c21b1 : (t330 != t335) = true := bne_iff_ne.mpr c21
          (first | rw [c21b0] | (simp only [i64_w, i32_w]; rw [c21b0]) | skip)
          have H' := Aside0.mk H
          clear H
          go_wp2
          repeat (go_quiet (fail); try go_wp2)
          go_meet
          case rel => exact ⟨_, (true), (by first | rfl | (simp; done) | (simp [*]; done)), H', ⟨by have := HK1.out; first | omega | exact Nat.le_refl _⟩, ⟨by (with_reducible repeat (first | apply Kd.N_alloc | apply Kd.N_drewN | apply Kd.N_drew)); exact HW5.out⟩, ⟨by (with_reducible repeat (first | apply Flip.drewN | apply Flip.drew)); exact HF8.out⟩, ⟨by (with_reducible repeat (first | refine blk_drewN ?_ _ | refine blk_drew ?_ | refine blk_alloc ?_ _)); exact BK324.out⟩, ⟨by repeat (first | (with_reducible first | exact HB.out | apply below_alloc | apply pw_below_drewN | apply below_drew1 | refine below_set ?_ GE324.out) | exact HB.out)⟩⟩
        clear HC18
        clear HO_5 HO334 HW5 HF8 BK324
        try clear c1; try clear c2; try clear p2; try clear c3; try clear c4; try clear c16; try clear c16b0; try clear c21; try clear c21b0; try clear c21b1; try clear hcz12_0; try clear hcz12_1; try clear hcz12_2; try clear hcz12_3; try clear hcz12_4; try clear hcz12_5; try clear hcz12_6; try clear hcz12_7; try clear hcz12_8; try clear hcz14_0; try clear hcz14_1; try clear hcz14_2; try clear hcz14_3; try clear hcz14_4; try clear hcz14_5; try clear hcz14_6; try clear hcz14_7; try clear hcz14_8; try clear hcz19_0; try clear hcz19_1; try clear hcz19_2; try clear hcz19_3; try clear hcz19_4; try clear hcz19_5; try clear hcz19_6; try clear hcz19_7; try clear hcz19_8; try clear hcz7_0; try clear hcz7_1; try clear hcz7_2; try clear hcz7_3; try clear hcz7_4; try clear hcz7_5; try clear hcz7_6; try clear hcz7_7; try clear hcz7_8; try clear hfz12_0; try clear hfz12_1; try clear hfz12_2; try clear hfz12_3; try clear hfz12_4; try clear hfz12_5; try clear hfz12_6; try clear hfz12_7; try clear hfz12_8; try clear hfz14_0; try clear hfz14_1; try clear hfz14_2; try clear hfz14_3; try clear hfz14_4; try clear hfz14_5; try clear hfz14_6; try clear hfz14_7; try clear hfz14_8; try clear hfz19_0; try clear hfz19_1; try clear hfz19_2; try clear hfz19_3; try clear hfz19_4; try clear hfz19_5; try clear hfz19_6; try clear hfz19_7; try clear hfz19_8; try clear hfz7_0; try clear hfz7_1; try clear hfz7_2; try clear hfz7_3; try clear hfz7_4; try clear hfz7_5; try clear hfz7_6; try clear hfz7_7; try clear hfz7_8; try clear p2
        obtain ⟨kq, x39_17, rfl, HA, HJ17, HO_5, HO_8, BK324, HB⟩ := hcut
        cases kq with
        | zero => exact absurd HA.out (by simp [pylonlaw26_UnitSchedulesMatch.j1])
        | succ kj17 =>
          have H := HA.out
          clear HA
          simp only [pylonlaw26_UnitSchedulesMatch.j1] at H
          by_cases c25 : x39_17 = true
          · subst c25
            have H1 : (some false) = some r := by rw [if_pos rfl] at H; exact H
            clear H
            have H := H1
            clear H1
            obtain rfl := Option.some.inj H
            go_wp2
            repeat (go_quiet (fail); try go_wp2)
            go_ret
            exact ⟨by first | rfl | (simp [errW_none, errW_some] <;> rfl) | (simp [*, errW_none, errW_some] <;> rfl), by repeat (first | (with_reducible first | exact HB.out | apply below_alloc | apply pw_below_drewN | apply below_drew1 | refine below_set ?_ GE324.out) | exact HB.out)⟩
          replace c25 := Bool.eq_false_iff.mpr c25
          subst c25
          have H1 : (pylonlaw26_UnitSchedulesMatch.l1 kj17 a1 t327 t330 x7_1 t332 0 a0_0 a0_1 l0_2 a0_3 a0_4 a0_5 a0_6 a0_7 a0_8) = some r := by rw [if_neg (show ¬ (false = true) by decide)] at H; exact H
          clear H
          have H := H1
          clear H1
          have H' := Aside0.mk H
          clear H
          go_wp2
          repeat (go_quiet (fail); try go_wp2)
          go_loopg [10] kj17 (fun kq v10 w' => ∃ (x10_3 : Int), v10 = .int .i64 x10_3 ∧ Aside0 (pylonlaw26_UnitSchedulesMatch.l1 kq a1 t327 t330 x7_1 t332 x10_3 a0_0 a0_1 l0_2 a0_3 a0_4 a0_5 a0_6 a0_7 a0_8 = some r) ∧ Aside0 (kq ≤ kj17) ∧ Aside0 (Kd.N (Kd.slice 4 Kd.bool) 32 w' w.heap.size (fun k_ => k_ < B ∧ k_ ≠ gb324) v328 t327) ∧ Aside0 (Flip w' B v333 t332) ∧ Aside0 (w'.heap[gb324]? = some (.cells #[.int .i64 a0_0, .int .i64 a0_1, (.slice A0_2 l0_2.length c0_2), .int .i64 a0_3, .int .i64 a0_4, .int .i64 a0_5, .int .i64 a0_6, .int .i64 a0_7, .int .i64 a0_8] 24 (0, 0))) ∧ Aside0 (Below w.heap.size w w'))
          case atStart => exact ⟨(0), (by first | rfl | (simp; done) | (simp [*]; done)), H', ⟨Nat.le_refl _⟩, ⟨by (with_reducible repeat (first | apply Kd.N_alloc | apply Kd.N_drewN | apply Kd.N_drew)); exact HO_5.out⟩, ⟨by (with_reducible repeat (first | apply Flip.drewN | apply Flip.drew)); exact HO_8.out⟩, ⟨by (with_reducible repeat (first | refine blk_drewN ?_ _ | refine blk_drew ?_ | refine blk_alloc ?_ _)); exact BK324.out⟩, ⟨by repeat (first | (with_reducible first | exact HB.out | apply below_alloc | apply pw_below_drewN | apply below_drew1 | refine below_set ?_ GE324.out) | exact HB.out)⟩⟩
          case round =>
            clear H'
            try clear c1; try clear c2; try clear p2; try clear c3; try clear c4; try clear c16; try clear c16b0; try clear c21; try clear c21b0; try clear c21b1; try clear c25; try clear hcz12_0; try clear hcz12_1; try clear hcz12_2; try clear hcz12_3; try clear hcz12_4; try clear hcz12_5; try clear hcz12_6; try clear hcz12_7; try clear hcz12_8; try clear hcz14_0; try clear hcz14_1; try clear hcz14_2; try clear hcz14_3; try clear hcz14_4; try clear hcz14_5; try clear hcz14_6; try clear hcz14_7; try clear hcz14_8; try clear hcz19_0; try clear hcz19_1; try clear hcz19_2; try clear hcz19_3; try clear hcz19_4; try clear hcz19_5; try clear hcz19_6; try clear hcz19_7; try clear hcz19_8; try clear hcz7_0; try clear hcz7_1; try clear hcz7_2; try clear hcz7_3; try clear hcz7_4; try clear hcz7_5; try clear hcz7_6; try clear hcz7_7; try clear hcz7_8; try clear hfz12_0; try clear hfz12_1; try clear hfz12_2; try clear hfz12_3; try clear hfz12_4; try clear hfz12_5; try clear hfz12_6; try clear hfz12_7; try clear hfz12_8; try clear hfz14_0; try clear hfz14_1; try clear hfz14_2; try clear hfz14_3; try clear hfz14_4; try clear hfz14_5; try clear hfz14_6; try clear hfz14_7; try clear hfz14_8; try clear hfz19_0; try clear hfz19_1; try clear hfz19_2; try clear hfz19_3; try clear hfz19_4; try clear hfz19_5; try clear hfz19_6; try clear hfz19_7; try clear hfz19_8; try clear hfz7_0; try clear hfz7_1; try clear hfz7_2; try clear hfz7_3; try clear hfz7_4; try clear hfz7_5; try clear hfz7_6; try clear hfz7_7; try clear hfz7_8; try clear p2
            obtain ⟨x10_3, rfl, HA, HK3, HO_5, HO_8, BK324, HB⟩ := hrel
            cases gk with
            | zero => exact absurd HA.out (by simp [pylonlaw26_UnitSchedulesMatch.l1])
            | succ k3 =>
              have H := HA.out
              clear HA
              simp only [pylonlaw26_UnitSchedulesMatch.l1] at H
              by_cases c26 : x10_3 < (t332.length : Int)
              · rw [if_pos c26] at H
                have c26b0 : decide (x10_3 < (t332.length : Int)) = true := decide_eq_true c26
                clear c26
                have H' := Aside0.mk H
                clear H
                obtain ⟨Ao27, co27, eo27⟩ := flip_slice HO_8.out
                subst eo27
                go_wp2
                repeat (go_quiet (fail); try go_wp2)
                go_loopg [11] k3 (fun kq v11 w' => ∃ (x11_4 : Int), v11 = .int .i64 x11_4 ∧ Aside0 (pylonlaw26_UnitSchedulesMatch.l2 kq a1 t327 t330 x7_1 t332 x10_3 x11_4 a0_0 a0_1 l0_2 a0_3 a0_4 a0_5 a0_6 a0_7 a0_8 = some r) ∧ Aside0 (kq ≤ k3) ∧ Aside0 (Kd.N (Kd.slice 4 Kd.bool) 32 w' w.heap.size (fun k_ => k_ < B ∧ k_ ≠ gb324) v328 t327) ∧ Aside0 (Flip w' B (.slice Ao27 t332.length co27) t332) ∧ Aside0 (w'.heap[gb324]? = some (.cells #[.int .i64 a0_0, .int .i64 a0_1, (.slice A0_2 l0_2.length c0_2), .int .i64 a0_3, .int .i64 a0_4, .int .i64 a0_5, .int .i64 a0_6, .int .i64 a0_7, .int .i64 a0_8] 24 (0, 0))) ∧ Aside0 (Below w.heap.size w w'))
                case atStart => exact ⟨(0), (by first | rfl | (simp; done) | (simp [*]; done)), H', ⟨Nat.le_refl _⟩, ⟨by (with_reducible repeat (first | apply Kd.N_alloc | apply Kd.N_drewN | apply Kd.N_drew)); exact HO_5.out⟩, ⟨by (with_reducible repeat (first | apply Flip.drewN | apply Flip.drew)); exact HO_8.out⟩, ⟨by (with_reducible repeat (first | refine blk_drewN ?_ _ | refine blk_drew ?_ | refine blk_alloc ?_ _)); exact BK324.out⟩, ⟨by repeat (first | (with_reducible first | exact HB.out | apply below_alloc | apply pw_below_drewN | apply below_drew1 | refine below_set ?_ GE324.out) | exact HB.out)⟩⟩
                case round =>
                  clear H'
                  try clear c1; try clear c2; try clear p2; try clear c3; try clear c4; try clear c16; try clear c16b0; try clear c21; try clear c21b0; try clear c21b1; try clear c25; try clear c26; try clear c26b0; try clear hcz12_0; try clear hcz12_1; try clear hcz12_2; try clear hcz12_3; try clear hcz12_4; try clear hcz12_5; try clear hcz12_6; try clear hcz12_7; try clear hcz12_8; try clear hcz14_0; try clear hcz14_1; try clear hcz14_2; try clear hcz14_3; try clear hcz14_4; try clear hcz14_5; try clear hcz14_6; try clear hcz14_7; try clear hcz14_8; try clear hcz19_0; try clear hcz19_1; try clear hcz19_2; try clear hcz19_3; try clear hcz19_4; try clear hcz19_5; try clear hcz19_6; try clear hcz19_7; try clear hcz19_8; try clear hcz7_0; try clear hcz7_1; try clear hcz7_2; try clear hcz7_3; try clear hcz7_4; try clear hcz7_5; try clear hcz7_6; try clear hcz7_7; try clear hcz7_8; try clear hfz12_0; try clear hfz12_1; try clear hfz12_2; try clear hfz12_3; try clear hfz12_4; try clear hfz12_5; try clear hfz12_6; try clear hfz12_7; try clear hfz12_8; try clear hfz14_0; try clear hfz14_1; try clear hfz14_2; try clear hfz14_3; try clear hfz14_4; try clear hfz14_5; try clear hfz14_6; try clear hfz14_7; try clear hfz14_8; try clear hfz19_0; try clear hfz19_1; try clear hfz19_2; try clear hfz19_3; try clear hfz19_4; try clear hfz19_5; try clear hfz19_6; try clear hfz19_7; try clear hfz19_8; try clear hfz7_0; try clear hfz7_1; try clear hfz7_2; try clear hfz7_3; try clear hfz7_4; try clear hfz7_5; try clear hfz7_6; try clear hfz7_7; try clear hfz7_8; try clear p2
                  obtain ⟨x11_4, rfl, HA, HK4, HO_5, HO_8, BK324, HB⟩ := hrel
                  cases gk with
                  | zero => exact absurd HA.out (by simp [pylonlaw26_UnitSchedulesMatch.l2])
                  | succ k4 =>
                    have H := HA.out
                    clear HA
                    simp only [pylonlaw26_UnitSchedulesMatch.l2] at H
                    by_cases c28 : 0 ≤ x10_3
                    · rw [if_pos c28] at H
                      have c28b0 : decide (0 ≤ x10_3) = true := decide_eq_true c28
                      clear c28
                      by_cases c29 : x10_3 < (t332.length : Int)
                      · rw [if_pos c29] at H
                        have c29b0 : decide (x10_3 < (t332.length : Int)) = true := decide_eq_true c29
                        clear c29
                        by_cases c30 : x11_4 < ((rd_L5 t332 x10_3).length : Int)
                        · rw [if_pos c30] at H
                          have c30b0 : decide (x11_4 < ((rd_L5 t332 x10_3).length : Int)) = true := decide_eq_true c30
                          clear c30
                          by_cases c31 : 0 ≤ x11_4
                          · rw [if_pos c31] at H
                            have c31b0 : decide (0 ≤ x11_4) = true := decide_eq_true c31
                            clear c31
                            have H' := Aside0.mk H
                            clear H
                            have p337 : 0 ≤ (x10_3 : Int) := of_decide_eq_true (by first | (with_reducible assumption) | assumption)
                            have q337 : x10_3 < (t332.length : Int) := of_decide_eq_true (by first | (with_reducible assumption) | assumption)
                            obtain ⟨g337, A337_0, c337_0, e337, hB337, hx337_0, hl337_0, hr337⟩ := flip_row HO_8.out x10_3 p337 q337
                            cases e337
                            have p340 : 0 ≤ (x11_4 : Int) := of_decide_eq_true (by first | (with_reducible assumption) | assumption)
                            have q340 : x11_4 < ((rd_L5 t332 x10_3).length : Int) := of_decide_eq_true (by first | (with_reducible assumption) | assumption)
                            obtain ⟨g340, b340, e340, hB340, hx340_0, hf340_0⟩ := hour_cell hr337 x11_4 p340 q340
                            cases e340
                            have HP := fun b => flip_put (W := wr.drew) (Flip.drew HO_8.out) x10_3 p337 q337 x11_4 p340 q340 rfl hx337_0 x11_4.toNat b
                            have HG340 := Aside0.mk hB340
                            clear hB340
                            clear hB337 hr337 hl337_0
                            replace p337 := eq_true p337
                            replace q337 := eq_true q337
                            replace p340 := eq_true p340
                            replace q340 := eq_true q340
                            go_wp2
                            have m0_ := Aside0.mk (show Kd.N (Kd.slice 4 Kd.bool) 32 wr.drew w.heap.size (fun k_ => k_ < B ∧ k_ ≠ gb324) v328 t327 by (with_reducible repeat (first | apply Kd.N_alloc | apply Kd.N_drewN | apply Kd.N_drew)); exact HO_5.out)
                            have m1_ := Aside0.mk (show Flip (wr.drew.setCell ⟨g340, (x11_4 : Int).toNat, none⟩ (.bool (!b340))) B (.slice (some ⟨g337, 0, none⟩) t332.length co27) t332 from HP _)
                            have m2_ := Aside0.mk (blk_drew BK324.out)
                            have m3_ := Aside0.mk (below_drew1 HB.out)
                            refine start_ (n := 15) (S := fun w' => w'.cell? ⟨g337, (x10_3 : Int).toNat, none⟩ = some (.slice (some ⟨g340, 0, none⟩) (rd_L5 t332 x10_3).length c337_0) ∧ w'.cell? ⟨g340, (x11_4 : Int).toNat, none⟩ = some (.bool b340)) (ds := [14]) (pbn 15 15) (by kernel_rfl) rfl rfl ⟨hx337_0, hx340_0⟩ (fun hHeld => ?_)
                            clear HO_5 HO_8 BK324 HB hx337_0 hx340_0 HP
                            replace hf340_0 : wr.drew.frozen? ⟨g340, (x11_4 : Int).toNat, none⟩ = false := hf340_0
                            generalize wr.drew = w25 at m0_ m1_ m2_ m3_ hHeld hf340_0 ⊢
                            iterate 3 (refine pureAt (n := 15) (v := ?_) (a' := ?_) rfl rfl rfl (by kernel_rfl) (fun _ _ _ h => h) (Or.inl ⟨by rfl, ?_⟩) ?_ ?_; rotate_left; (focus (intro w'; go_simp; with_reducible rfl)); rotate_left; (focus (simp only [Act.put, List.setIfInBounds_toArray, List.set_cons_zero, List.set_cons_succ, i64_w, i32_w]; rfl)))
                            (refine takeAt (n := 15) (v := ?_) (a' := ?_) rfl rfl rfl (by kernel_rfl) (fun _ _ _ h => h) (Or.inl ⟨by rfl, ?_⟩) hHeld ?_ ?_; rotate_left; (focus (rintro w' ⟨s0, s1⟩; go_simp; with_reducible rfl)); rotate_left; (focus (simp only [Act.put, List.setIfInBounds_toArray, List.set_cons_zero, List.set_cons_succ, i64_w, i32_w]; rfl)))
                            iterate 4 (refine pureAt (n := 15) (v := ?_) (a' := ?_) rfl rfl rfl (by kernel_rfl) (fun _ _ _ h => h) (Or.inl ⟨by rfl, ?_⟩) ?_ ?_; rotate_left; (focus (intro w'; go_simp; with_reducible rfl)); rotate_left; (focus (simp only [Act.put, List.setIfInBounds_toArray, List.set_cons_zero, List.set_cons_succ, i64_w, i32_w]; rfl)))
                            (refine takeAt (n := 15) (v := ?_) (a' := ?_) rfl rfl rfl (by kernel_rfl) (fun _ _ _ h => h) (Or.inl ⟨by rfl, ?_⟩) hHeld ?_ ?_; rotate_left; (focus (rintro w' ⟨s0, s1⟩; go_simp; with_reducible rfl)); rotate_left; (focus (simp only [Act.put, List.setIfInBounds_toArray, List.set_cons_zero, List.set_cons_succ, i64_w, i32_w]; rfl)))
                            iterate 2 (refine pureAt (n := 15) (v := ?_) (a' := ?_) rfl rfl rfl (by kernel_rfl) (fun _ _ _ h => h) (Or.inl ⟨by rfl, ?_⟩) ?_ ?_; rotate_left; (focus (intro w'; go_simp; with_reducible rfl)); rotate_left; (focus (simp only [Act.put, List.setIfInBounds_toArray, List.set_cons_zero, List.set_cons_succ, i64_w, i32_w]; rfl)))
                            (refine takeAt (n := 15) (v := ?_) (a' := ?_) rfl rfl rfl (by kernel_rfl) (fun _ _ _ h => h) (Or.inl ⟨by rfl, ?_⟩) hHeld ?_ ?_; rotate_left; (focus (rintro w' ⟨s0, s1⟩; go_simp; with_reducible rfl)); rotate_left; (focus (simp only [Act.put, List.setIfInBounds_toArray, List.set_cons_zero, List.set_cons_succ, i64_w, i32_w]; rfl)))
                            iterate 2 (refine pureAt (n := 15) (v := ?_) (a' := ?_) rfl rfl rfl (by kernel_rfl) (fun _ _ _ h => h) (Or.inl ⟨by rfl, ?_⟩) ?_ ?_; rotate_left; (focus (intro w'; go_simp; with_reducible rfl)); rotate_left; (focus (simp only [Act.put, List.setIfInBounds_toArray, List.set_cons_zero, List.set_cons_succ, i64_w, i32_w]; rfl)))
                            obtain ⟨hs0_, hs1_⟩ := hHeld
                            refine last_ (i := 14) (N := none) (pbn 15 0) rfl rfl (by kernel_rfl) (by decide) (fun K hK => ?_)
                            refine store_step (w1 := (w25.setCell ⟨g340, (x11_4 : Int).toNat, none⟩ (.bool (!b340)))) (by rfl) rfl ?hr ?_
                            case hr => first | (go_simp; done) | (go_simp; rfl)
                            refine hK.out _ _ ?_
                            clear hK K
                            refine done_ (by kernel_rfl) ?_
                            have n0_ := Aside0.mk (Kd.N_far (p := ⟨g340, (x11_4 : Int).toNat, none⟩) m0_.out (fun k_ hk_ => by have := HG340.out; have := hk_.1; show k_ ≠ g340; omega) (.bool (!b340)))
                            have n2_ := Aside0.mk (blk_far (p := ⟨g340, (x11_4 : Int).toNat, none⟩) m2_.out (by have := HG340.out; have := GG.out; show gb324 ≠ g340; omega) (.bool (!b340)))
                            have n3_ := Aside0.mk (below_set (g := g340) (j := (x11_4 : Int).toNat) (v := .bool (!b340)) m3_.out (Nat.le_trans GB.out HG340.out))
                            have HO_5 := n0_
                            have HO_8 := m1_
                            have BK324 := n2_
                            have HB := n3_
                            clear n0_ n2_ n3_ m0_ m1_ m2_ m3_ hf340_0 hs0_ hs1_
                            generalize (w25.setCell ⟨g340, (x11_4 : Int).toNat, none⟩ (.bool (!b340))) = w37 at HO_5 HO_8 BK324 HB ⊢
                            go_wp2
                            repeat (go_quiet (fail); try go_wp2)
                            go_roundg k4
                            case measure => have := HK1.out; have := HJ17.out; have := HK3.out; have := HK4.out; omega
                            case rel => exact ⟨(wrap64 (x11_4 + 1)), (by first | rfl | (simp; done) | (simp [*]; done)), H', ⟨by have := HK1.out; have := HJ17.out; have := HK3.out; have := HK4.out; omega⟩, ⟨by (with_reducible repeat (first | apply Kd.N_alloc | apply Kd.N_drewN | apply Kd.N_drew)); exact HO_5.out⟩, ⟨by (with_reducible repeat (first | apply Flip.drewN | apply Flip.drew)); exact HO_8.out⟩, ⟨by (with_reducible repeat (first | refine blk_drewN ?_ _ | refine blk_drew ?_ | refine blk_alloc ?_ _)); exact BK324.out⟩, ⟨by repeat (first | (with_reducible first | exact HB.out | apply below_alloc | apply pw_below_drewN | apply below_drew1 | refine below_set ?_ GE324.out) | exact HB.out)⟩⟩
                          rw [if_neg c31] at H
                          exact absurd H (by simp)
                        rw [if_neg c30] at H
                        have c30b0 : decide (x11_4 < ((rd_L5 t332 x10_3).length : Int)) = false := decide_eq_false c30
                        clear c30
                        have H' := Aside0.mk H
                        clear H
                        have p337 : 0 ≤ (x10_3 : Int) := of_decide_eq_true (by first | (with_reducible assumption) | assumption)
                        have q337 : x10_3 < (t332.length : Int) := of_decide_eq_true (by first | (with_reducible assumption) | assumption)
                        obtain ⟨g337, A337_0, c337_0, e337, hB337, hx337_0, hl337_0, hr337⟩ := flip_row HO_8.out x10_3 p337 q337
                        cases e337
                        clear hB337 hr337 hl337_0
                        replace p337 := eq_true p337
                        replace q337 := eq_true q337
                        go_wp2
                        repeat (go_quiet (fail); try go_wp2)
                        go_roundg k4
                        case measure => have := HK1.out; have := HJ17.out; have := HK3.out; have := HK4.out; omega
                        case rel => exact ⟨(wrap64 (x10_3 + 1)), (by first | rfl | (simp; done) | (simp [*]; done)), H', ⟨by have := HK1.out; have := HJ17.out; have := HK3.out; have := HK4.out; omega⟩, ⟨by (with_reducible repeat (first | apply Kd.N_alloc | apply Kd.N_drewN | apply Kd.N_drew)); exact HO_5.out⟩, ⟨by (with_reducible repeat (first | apply Flip.drewN | apply Flip.drew)); exact HO_8.out⟩, ⟨by (with_reducible repeat (first | refine blk_drewN ?_ _ | refine blk_drew ?_ | refine blk_alloc ?_ _)); exact BK324.out⟩, ⟨by repeat (first | (with_reducible first | exact HB.out | apply below_alloc | apply pw_below_drewN | apply below_drew1 | refine below_set ?_ GE324.out) | exact HB.out)⟩⟩
                      rw [if_neg c29] at H
                      exact absurd H (by simp)
                    rw [if_neg c28] at H
                    exact absurd H (by simp)
              rw [if_neg c26] at H
              have c26b0 : decide (x10_3 < (t332.length : Int)) = false := decide_eq_false c26
              clear c26
              have H' := Aside0.mk H
              clear H
              obtain ⟨Ao32, co32, eo32⟩ := flip_slice HO_8.out
              subst eo32
              go_wp2
              repeat (go_quiet (fail); try go_wp2)
              go_roundg k3
              case measure => have := HK1.out; have := HJ17.out; have := HK3.out; omega
              case rel => exact ⟨(wrap64 (x7_1 + 1)), (by first | rfl | (simp; done) | (simp [*]; done)), H', ⟨by have := HK1.out; have := HJ17.out; have := HK3.out; omega⟩, ⟨by (with_reducible repeat (first | apply Kd.N_alloc | apply Kd.N_drewN | apply Kd.N_drew)); exact Kd.N_mono HO_5.out (fun _ hk => hk.2)⟩, ⟨by (with_reducible repeat (first | refine blk_drewN ?_ _ | refine blk_drew ?_ | refine blk_alloc ?_ _)); exact BK324.out⟩, ⟨by repeat (first | (with_reducible first | exact HB.out | apply below_alloc | apply pw_below_drewN | apply below_drew1 | refine below_set ?_ GE324.out) | exact HB.out)⟩⟩
      rw [if_neg c16] at H
      have c16b0 : decide (x7_1 < 2) = false := decide_eq_false c16
      clear c16
      replace H := Option.bind_eq_some_iff.mp H
      obtain ⟨t331, A330, H⟩ := H
      replace H : (some t331) = some r := H
      have A33 := Aside0.mk A330
      clear A330
      obtain rfl := Option.some.inj H
      go_wp2_with (first | (go_at_call 17; (with_reducible refine (pylonlaw26_awake.calls  t331 _ A33.out).mono ?_); rintro e w34 ⟨rfl, hb⟩; have n0_ := Aside0.mk (Kd.N_below (by (with_reducible repeat (first | apply Kd.N_alloc | apply Kd.N_drewN | apply Kd.N_drew)); exact HO_5.out) hb); have n1_ := Aside0.mk (blk_below (g := gb324) (o := .cells #[.int .i64 a0_0, .int .i64 a0_1, .slice A0_2 l0_2.length c0_2, .int .i64 a0_3, .int .i64 a0_4, .int .i64 a0_5, .int .i64 a0_6, .int .i64 a0_7, .int .i64 a0_8] 24 (0, 0)) (by (with_reducible repeat (first | refine blk_drewN ?_ _ | refine blk_drew ?_ | refine blk_alloc ?_ _)); exact BK324.out) hb); have n2_ := Aside0.mk (below_step (by repeat (first | (with_reducible first | exact HB.out | apply below_alloc | apply pw_below_drewN | apply below_drew1 | refine below_set ?_ GE324.out) | exact HB.out)) hb); clear HO_5; clear BK324; clear HB; have HO_5 := n0_; have BK324 := n1_; have HB := n2_; clear n0_ n1_ n2_; (try clear hb); (try clear hb2); (try clear hk); (try clear hi)))
      repeat (go_quiet (first | (go_at_call 17; (with_reducible refine (pylonlaw26_awake.calls  t331 _ A33.out).mono ?_); rintro e w34 ⟨rfl, hb⟩; have n0_ := Aside0.mk (Kd.N_below (by (with_reducible repeat (first | apply Kd.N_alloc | apply Kd.N_drewN | apply Kd.N_drew)); exact HO_5.out) hb); have n1_ := Aside0.mk (blk_below (g := gb324) (o := .cells #[.int .i64 a0_0, .int .i64 a0_1, .slice A0_2 l0_2.length c0_2, .int .i64 a0_3, .int .i64 a0_4, .int .i64 a0_5, .int .i64 a0_6, .int .i64 a0_7, .int .i64 a0_8] 24 (0, 0)) (by (with_reducible repeat (first | refine blk_drewN ?_ _ | refine blk_drew ?_ | refine blk_alloc ?_ _)); exact BK324.out) hb); have n2_ := Aside0.mk (below_step (by repeat (first | (with_reducible first | exact HB.out | apply below_alloc | apply pw_below_drewN | apply below_drew1 | refine below_set ?_ GE324.out) | exact HB.out)) hb); clear HO_5; clear BK324; clear HB; have HO_5 := n0_; have BK324 := n1_; have HB := n2_; clear n0_ n1_ n2_; (try clear hb); (try clear hb2); (try clear hk); (try clear hi))); try go_wp2_with (first | (go_at_call 17; (with_reducible refine (pylonlaw26_awake.calls  t331 _ A33.out).mono ?_); rintro e w34 ⟨rfl, hb⟩; have n0_ := Aside0.mk (Kd.N_below (by (with_reducible repeat (first | apply Kd.N_alloc | apply Kd.N_drewN | apply Kd.N_drew)); exact HO_5.out) hb); have n1_ := Aside0.mk (blk_below (g := gb324) (o := .cells #[.int .i64 a0_0, .int .i64 a0_1, .slice A0_2 l0_2.length c0_2, .int .i64 a0_3, .int .i64 a0_4, .int .i64 a0_5, .int .i64 a0_6, .int .i64 a0_7, .int .i64 a0_8] 24 (0, 0)) (by (with_reducible repeat (first | refine blk_drewN ?_ _ | refine blk_drew ?_ | refine blk_alloc ?_ _)); exact BK324.out) hb); have n2_ := Aside0.mk (below_step (by repeat (first | (with_reducible first | exact HB.out | apply below_alloc | apply pw_below_drewN | apply below_drew1 | refine below_set ?_ GE324.out) | exact HB.out)) hb); clear HO_5; clear BK324; clear HB; have HO_5 := n0_; have BK324 := n1_; have HB := n2_; clear n0_ n1_ n2_; (try clear hb); (try clear hb2); (try clear hk); (try clear hi))))
      go_ret
      exact ⟨by first | rfl | (simp [errW_none, errW_some] <;> rfl) | (simp [*, errW_none, errW_some] <;> rfl), by repeat (first | (with_reducible first | exact HB.out | apply below_alloc | apply pw_below_drewN | apply below_drew1 | refine below_set ?_ GE324.out) | exact HB.out)⟩

end Go.Proofs.Ytelklgdmhnkenaa.U
/- How the arguments of the laws read: as numbers and lists. -/
namespace Go.Proofs.Ytelklgdmhnkenaa.U
open Go.RowKit Go.Proofs.YtelklgdmhnkenaaW.PrintWords Go.Proofs.YtelklgdmhnkenaaW.PrintLast Go.Proofs.YtelklgdmhnkenaaW.PrintMore
open Go.ChangeShapes Go.WideShapes Go.Deep
set_option linter.unusedVariables false
set_option linter.unusedSimpArgs false
section
variable {H : Type} {enc : TypeId × Value → H} {P : Program} {w : World} {base : Nat} {spare : Nat → Bool} {held : Bool}

/-- What can be read at type t is of kind d, and Q holds of it. -/
def Opens (enc : TypeId × Value → H) (P : Program) (w : World) (base : Nat) (spare : Nat → Bool) (held : Bool) {α : Type} (d : Kd α) (Q : α → Prop) (t : TypeId) : Prop :=
  ∀ (fuel : Nat) (cs : List Value) (x : DataW H × List MemPlace), DataW.trod enc P w base spare held fuel t cs = some x → ∃ y, d.K w y cs ∧ Q y
theorem opens_int {t : TypeId} {k : IntKind} (ht : P.underlying t = some (.int k)) : Opens enc P w base spare held (Kd.int k) (fun n => (Lit.int k n).wf = true) t := by
  intro fuel cs x h
  obtain ⟨n, hc, _, hw⟩ := DataW.trod_int ht h
  exact ⟨n, hc, hw⟩
theorem opens_bool {t : TypeId} (ht : P.underlying t = some .bool) : Opens enc P w base spare held Kd.bool (fun _ => True) t := by
  intro fuel cs x h
  obtain ⟨b, hc, _⟩ := DataW.trod_bool ht h
  exact ⟨b, hc, trivial⟩
/-- A list of the elements that can be read. -/
theorem list_of {α : Type} (m : Nat) (R : Nat → α → Prop) (h : ∀ i, i < m → ∃ y, R i y) : ∃ l : List α, l.length = m ∧ ∀ i y, l[i]? = some y → R i y := by
  induction m with
  | zero => exact ⟨[], rfl, fun i y hy => by simp at hy⟩
  | succ m ih =>
    obtain ⟨l, hl, hr⟩ := ih (fun i hi => h i (by omega))
    obtain ⟨y, hy⟩ := h m (by omega)
    refine ⟨l ++ [y], by simp [hl], fun i z hz => ?_⟩
    rcases Nat.lt_or_ge i l.length with hi | hi
    · rw [List.getElem?_append_left hi] at hz
      exact hr i z hz
    · have : i = m := by
        have := (List.getElem?_eq_some_iff.1 hz).1
        simp at this
        omega
      subst this
      rw [← hl] at hz ⊢
      have : y = z := by simpa using hz
      subst this
      rw [hl]
      exact hy
theorem opens_slice {α : Type} {d : Kd α} {Q : α → Prop} {t e : TypeId} (ht : P.underlying t = some (.slice e)) (he : Opens enc P w base spare held d Q e) (hC : P.cellsOf e = d.sz) :
    Opens enc P w base spare held (Kd.slice e d) (fun l => ∀ y ∈ l, Q y) t := by
  intro fuel cs x h
  rcases open_slice ht h with ⟨rfl, _⟩ | ⟨a, len, cap, m, n, D, Pl, rfl, _, hl, hm, hmm, _, hi⟩
  · exact ⟨[], ⟨none, 0, rfl, Nat.le_refl _, rfl, by simp, fun h => absurd h (by simp)⟩, fun y hy => by cases hy⟩
  · have hlm : len ≤ m := by rw [hmm]; split <;> omega
    obtain ⟨l, hll, hr⟩ := list_of len (fun i y => Q y ∧ ∃ cs', d.K w y cs' ∧ ∀ j u, cs'[j]? = some u → w.cell? (a.add (i * d.sz + j)) = some u) (fun i hil => by
      obtain ⟨cs', hc, htr⟩ := hi i (by omega)
      obtain ⟨y, hK, hQ⟩ := he _ _ _ htr
      rw [hC] at hc
      obtain ⟨_, hcl, hat⟩ := World.cells?_some hc
      refine ⟨y, hQ, cs', hK, fun j u hj => ?_⟩
      have hj' : j < d.sz := by have := (List.getElem?_eq_some_iff.1 hj).1; omega
      rw [← Go.Deep.add_add, hat j hj', hj])
    subst hll
    refine ⟨l, ⟨some a, cap, rfl, hl, rfl, by simp only [maxLen] at hm; omega, fun _ => ⟨a, rfl, fun j p hj => ?_⟩⟩, fun y hy => ?_⟩
    · obtain ⟨_, cs', hK, hat⟩ := hr j p hj
      exact ⟨cs', d.K_len hK, hK, hat⟩
    · obtain ⟨i, hi⟩ := List.getElem?_of_mem hy
      exact (hr i y hi).1
theorem struct_cells {fs : Array Field} {t : TypeId} {fuel : Nat} {cs : List Value} {x : DataW H × List MemPlace} (ht : P.underlying t = some (.struct fs)) (hone : oneCellFields P fs = true) (h : DataW.trod enc P w base spare held fuel t cs = some x) :
    cs.length = P.cellsOf t ∧ ∀ (i : Nat) (f : Field), fs[i]? = some f → i < cs.length → ∃ n y v, cs[i]? = some v ∧ DataW.trod enc P w base spare held n f.type [v] = some y := by
  obtain ⟨ys, n, _, _, hlen, hyl, hf⟩ := DataW.trod_struct ht h
  refine ⟨hlen, fun i f hi hlt => ?_⟩
  obtain ⟨ho, hk⟩ := hone_of hone i f hi
  have h1 := hf i f hi
  rw [ho, hk, List.drop_eq_getElem_cons hlt] at h1
  have hiy : i < ys.length := by rw [hyl]; exact (Array.getElem?_eq_some_iff.1 hi).1
  rw [List.getElem?_eq_getElem hiy] at h1
  exact ⟨n, _, cs[i], List.getElem?_eq_getElem hlt, h1⟩
end
def wfI (n : Int) : Prop := -9223372036854775808 ≤ n ∧ n ≤ 9223372036854775807
theorem wfI_of {n : Int} (h : (Lit.int .i64 n).wf = true) : wfI n := bounds_i64 h
section
variable {H : Type} {enc : TypeId × Value → H} {w : World} {base : Nat} {spare : Nat → Bool} {held : Bool}
theorem open_i {t : TypeId} {n : Nat} {v : Value} {y : DataW H × List MemPlace} (ht : Try.prog.underlying t = some (.int .i64)) (h : DataW.trod enc Try.prog w base spare held n t [v] = some y) : ∃ a : Int, v = .int .i64 a ∧ wfI a := by
  obtain ⟨a, e, w0⟩ := opens_int ht _ _ _ h
  have e' : [v] = [Value.int .i64 a] := e
  exact ⟨a, by simpa using e', wfI_of w0⟩
theorem opens_step : Opens enc Try.prog w base spare held k99 (fun s => wfI s.f0 ∧ wfI s.f1) 99 := by
  intro fuel cs x h
  obtain ⟨hl, hc⟩ := struct_cells Try.underlying99 (by kernel_rfl) h
  rw [show Try.prog.cellsOf 99 = 2 from by kernel_rfl] at hl
  match cs, hl with
  | [c0, c1], _ =>
    obtain ⟨n0, y0, v0, h0, t0⟩ := hc 0 _ rfl (by simp)
    obtain ⟨n1, y1, v1, h1, t1⟩ := hc 1 _ rfl (by simp)
    obtain rfl : c0 = v0 := by simpa using h0
    obtain rfl : c1 = v1 := by simpa using h1
    obtain ⟨a, rfl, w0⟩ := open_i (by kernel_rfl) t0
    obtain ⟨b, rfl, w1⟩ := open_i (by kernel_rfl) t1
    exact ⟨⟨a, b⟩, k99_mk w ⟨a, b⟩, w0, w1⟩
/-- What the numbers of a unit are: whole numbers of their kind. -/
structure wfU (u : S24) : Prop where
  h0 : wfI u.f0
  h1 : wfI u.f1
  h2 : ∀ s ∈ u.f2, wfI s.f0 ∧ wfI s.f1
  h3 : wfI u.f3
  h4 : wfI u.f4
  h5 : wfI u.f5
  h6 : wfI u.f6
  h7 : wfI u.f7
  h8 : wfI u.f8
set_option maxRecDepth 100000 in
theorem opens_unit : Opens enc Try.prog w base spare held k24 wfU 24 := by
  intro fuel cs x h
  obtain ⟨hl, hc⟩ := struct_cells Try.underlying24 (by kernel_rfl) h
  rw [show Try.prog.cellsOf 24 = 9 from by kernel_rfl] at hl
  match cs, hl with
  | [c0, c1, c2, c3, c4, c5, c6, c7, c8], _ =>
    obtain ⟨n0, y0, v0, h0, t0⟩ := hc 0 _ rfl (by simp)
    obtain ⟨n1, y1, v1, h1, t1⟩ := hc 1 _ rfl (by simp)
    obtain ⟨n2, y2, v2, h2, t2⟩ := hc 2 _ rfl (by simp)
    obtain ⟨n3, y3, v3, h3, t3⟩ := hc 3 _ rfl (by simp)
    obtain ⟨n4, y4, v4, h4, t4⟩ := hc 4 _ rfl (by simp)
    obtain ⟨n5, y5, v5, h5, t5⟩ := hc 5 _ rfl (by simp)
    obtain ⟨n6, y6, v6, h6, t6⟩ := hc 6 _ rfl (by simp)
    obtain ⟨n7, y7, v7, h7, t7⟩ := hc 7 _ rfl (by simp)
    obtain ⟨n8, y8, v8, h8, t8⟩ := hc 8 _ rfl (by simp)
    obtain rfl : c0 = v0 := by simpa using h0
    obtain rfl : c1 = v1 := by simpa using h1
    obtain rfl : c2 = v2 := by simpa using h2
    obtain rfl : c3 = v3 := by simpa using h3
    obtain rfl : c4 = v4 := by simpa using h4
    obtain rfl : c5 = v5 := by simpa using h5
    obtain rfl : c6 = v6 := by simpa using h6
    obtain rfl : c7 = v7 := by simpa using h7
    obtain rfl : c8 = v8 := by simpa using h8
    obtain ⟨a0, rfl, w0⟩ := open_i (by kernel_rfl) t0
    obtain ⟨a1, rfl, w1⟩ := open_i (by kernel_rfl) t1
    obtain ⟨l, ⟨A, c, e, hlc, hC⟩, hq⟩ := opens_slice Try.underlying22 opens_step (by kernel_rfl) _ _ _ t2
    obtain rfl : c2 = .slice A l.length c := by simpa using e
    obtain ⟨a3, rfl, w3⟩ := open_i (by kernel_rfl) t3
    obtain ⟨a4, rfl, w4⟩ := open_i (by kernel_rfl) t4
    obtain ⟨a5, rfl, w5⟩ := open_i (by kernel_rfl) t5
    obtain ⟨a6, rfl, w6⟩ := open_i (by kernel_rfl) t6
    obtain ⟨a7, rfl, w7⟩ := open_i (by kernel_rfl) t7
    obtain ⟨a8, rfl, w8⟩ := open_i (by kernel_rfl) t8
    exact ⟨⟨a0, a1, l, a3, a4, a5, a6, a7, a8⟩, k24_mk w ⟨a0, a1, l, a3, a4, a5, a6, a7, a8⟩ hlc hC, ⟨w0, w1, hq, w3, w4, w5, w6, w7, w8⟩⟩
set_option maxRecDepth 100000 in
/-- An argument that is a unit. -/
theorem arg_unit {r : Reach} {b0 : Nat} {v : Value} {d : DataW H} {p : List MemPlace} (hv : Value.okWide Try.prog w r b0 24 v) (h : DataW.Trod enc Try.prog w base spare held 24 v d p) :
    ∃ (u : S24) (A : Option Addr) (c : Nat), v = .agg #[.int .i64 u.f0, .int .i64 u.f1, .slice A u.f2.length c, .int .i64 u.f3, .int .i64 u.f4, .int .i64 u.f5, .int .i64 u.f6, .int .i64 u.f7, .int .i64 u.f8] ∧ u.f2.length ≤ c ∧ Kd.C k99 w A u.f2.length u.f2 ∧ wfU u := by
  have hs := okWide_struct Try.underlying24 hv
  obtain ⟨cs, hv2, _⟩ := hs
  clear hv
  subst hv2
  obtain ⟨fuel, hf⟩ := h
  have ho := opens_unit fuel cs.toList _ hf
  clear hf
  obtain ⟨u, hK, hq⟩ := ho
  obtain ⟨A, c, e, hl, hC⟩ := k24_open hK
  exact ⟨u, A, c, by rw [← e], hl, hC, hq⟩
end
section
variable {H : Type} {enc : TypeId × Value → H} {P : Program} {w : World} {base : Nat} {spare : Nat → Bool} {held : Bool}
/-- An argument that is a slice. -/
theorem arg_slice {α : Type} {dk : Kd α} {Q : α → Prop} {t te : TypeId} {r : Reach} {b0 : Nat} {v : Value} {d : DataW H} {p : List MemPlace} (ht : P.underlying t = some (.slice te)) (he : Opens enc P w base spare held dk Q te) (hC : P.cellsOf te = dk.sz)
    (hv : Value.okWide P w r b0 t v) (h : DataW.Trod enc P w base spare held t v d p) : ∃ (l : List α) (A : Option Addr) (c : Nat), v = .slice A l.length c ∧ l.length ≤ c ∧ Kd.C dk w A l.length l ∧ ∀ y ∈ l, Q y := by
  obtain ⟨a, len, cap, hv2⟩ := okWide_slice ht hv
  subst hv2
  obtain ⟨fuel, hf⟩ := h
  obtain ⟨l, ⟨A, c, e1, hlc, hC1⟩, hq⟩ := opens_slice ht he hC _ _ _ hf
  exact ⟨l, A, c, by simpa [Value.cells] using e1, hlc, hC1, hq⟩
end
end Go.Proofs.Ytelklgdmhnkenaa.U
/- Lean functions with the answers of Go functions, and proofs that the calls come to these answers (lines by a program of this session, wip/patch_print.py, over the kit's print tool). -/
namespace Go.Proofs.Ytelklgdmhnkenaa.U
open Go.RowKit Go.Proofs.YtelklgdmhnkenaaW.PrintWords Go.Proofs.YtelklgdmhnkenaaW.PrintLast Go.Proofs.YtelklgdmhnkenaaW.PrintMore
attribute [local go_sem] max2_int min2_int max_two min_two max_three min_three max_four min_four   -- for this text's walks alone
set_option linter.unusedVariables false
set_option linter.unusedSimpArgs false

/-! ### pylonlaw26_may: function 21 -/
def pylonlaw26_may.f (k : Nat) (a0_0 : Int) (a0_1 : Int) (l0_2 : List (S99)) (a0_3 : Int) (a0_4 : Int) (a0_5 : Int) (a0_6 : Int) (a0_7 : Int) (a0_8 : Int) : Option (Bool) := (unit_Check.f k a0_0 a0_1 l0_2 a0_3 a0_4 a0_5 a0_6 a0_7 a0_8 6).bind fun t227 => (some (t227 == 0))
set_option maxHeartbeats 8000000 in
set_option maxRecDepth 100000 in
theorem pylonlaw26_may.calls (k : Nat) (a0_0 : Int) (a0_1 : Int) (A0_2 : Option Addr) (c0_2 : Nat) (l0_2 : List (S99)) (a0_3 : Int) (a0_4 : Int) (a0_5 : Int) (a0_6 : Int) (a0_7 : Int) (a0_8 : Int) (r : Bool) (w : World) (hr0_2 : Kd.C k99 w A0_2 l0_2.length l0_2) (hc0_2 : l0_2.length ≤ c0_2) (h : pylonlaw26_may.f k a0_0 a0_1 l0_2 a0_3 a0_4 a0_5 a0_6 a0_7 a0_8 = some r) :
    Calls Try.prog 21 #[.agg #[.int .i64 a0_0, .int .i64 a0_1, .slice A0_2 l0_2.length c0_2, .int .i64 a0_3, .int .i64 a0_4, .int .i64 a0_5, .int .i64 a0_6, .int .i64 a0_7, .int .i64 a0_8]] w fun e w' => e = .returned (.bool r) ∧ Below w.heap.size w w' := by
  have hu24 := Try.underlying24
  have HR0_2 := Aside0.mk hr0_2
  have HC0_2 := Aside0.mk hc0_2
  clear hr0_2 hc0_2
  have HB := Aside0.mk (Below.refl w.heap.size w)
  have H : ((unit_Check.f k a0_0 a0_1 l0_2 a0_3 a0_4 a0_5 a0_6 a0_7 a0_8 6).bind fun t227 => (some (t227 == 0))) = some r := h
  clear h
  replace H := Option.bind_eq_some_iff.mp H
  obtain ⟨t227, A20, H⟩ := H
  replace H : (some (t227 == 0)) = some r := H
  have A2 := Aside0.mk A20
  clear A20
  obtain rfl := Option.some.inj H
  go_enter Try.func21, Try.ntmps21
  go_wp2_with (first | ((with_reducible refine gate_dst (N := 1) rfl ?_); refine box_event ?hg (N := 1) ?hd (cs := #[.int .i64 a0_0, .int .i64 a0_1, .slice A0_2 l0_2.length c0_2, .int .i64 a0_3, .int .i64 a0_4, .int .i64 a0_5, .int .i64 a0_6, .int .i64 a0_7, .int .i64 a0_8]) (t := 24) ?hr ?_; (case hd => rfl); (case hg => rfl); (case hr => first | (go_simp; done) | (go_simp; rfl)); intro gb226 hg w3 hbox hb; have n0_ := Aside0.mk (below_step (by repeat (first | (with_reducible first | exact HB.out | apply below_alloc | apply pw_below_drewN | apply below_drew1) | exact HB.out)) hb); have n1_ := Aside0.mk (hbox); have n2_ := Aside0.mk ((by rw [hg]; exact (below_size (by repeat (first | (with_reducible first | exact HB.out | apply below_alloc | apply pw_below_drewN | apply below_drew1) | exact HB.out))) : w.heap.size ≤ gb226)); have n3_ := Aside0.mk ((by rw [hg]; exact (below_size (by repeat (first | (with_reducible first | exact HB.out | apply below_alloc | apply pw_below_drewN | apply below_drew1) | exact HB.out))) : w.heap.size ≤ gb226)); clear HB; have HB := n0_; have BK226 := n1_; have GW226 := n2_; have GE226 := n3_; clear n0_ n1_ n2_ n3_; clear hb hbox hg; have hcz4_0 : w3.cell? ⟨gb226, 0, none⟩ = some (.int .i64 a0_0) := (blk_cell BK226.out 0).trans rfl; have hcz4_1 : w3.cell? ⟨gb226, 1, none⟩ = some (.int .i64 a0_1) := (blk_cell BK226.out 1).trans rfl; have hcz4_2 : w3.cell? ⟨gb226, 2, none⟩ = some (.slice A0_2 l0_2.length c0_2) := (blk_cell BK226.out 2).trans rfl; have hcz4_3 : w3.cell? ⟨gb226, 3, none⟩ = some (.int .i64 a0_3) := (blk_cell BK226.out 3).trans rfl; have hcz4_4 : w3.cell? ⟨gb226, 4, none⟩ = some (.int .i64 a0_4) := (blk_cell BK226.out 4).trans rfl; have hcz4_5 : w3.cell? ⟨gb226, 5, none⟩ = some (.int .i64 a0_5) := (blk_cell BK226.out 5).trans rfl; have hcz4_6 : w3.cell? ⟨gb226, 6, none⟩ = some (.int .i64 a0_6) := (blk_cell BK226.out 6).trans rfl; have hcz4_7 : w3.cell? ⟨gb226, 7, none⟩ = some (.int .i64 a0_7) := (blk_cell BK226.out 7).trans rfl; have hcz4_8 : w3.cell? ⟨gb226, 8, none⟩ = some (.int .i64 a0_8) := (blk_cell BK226.out 8).trans rfl; have hfz4_0 := blk_frozen BK226.out 0; have hfz4_1 := blk_frozen BK226.out 1; have hfz4_2 := blk_frozen BK226.out 2; have hfz4_3 := blk_frozen BK226.out 3; have hfz4_4 := blk_frozen BK226.out 4; have hfz4_5 := blk_frozen BK226.out 5; have hfz4_6 := blk_frozen BK226.out 6; have hfz4_7 := blk_frozen BK226.out 7; have hfz4_8 := blk_frozen BK226.out 8) | ((with_reducible refine gate_callee (f := 34) rfl ?_); refine goesL_ (some 4) rfl rfl Try.func34 (by kernel_rfl) rfl #[.agg #[.int .i64 a0_0, .int .i64 a0_1, .slice A0_2 l0_2.length c0_2, .int .i64 a0_3, .int .i64 a0_4, .int .i64 a0_5, .int .i64 a0_6, .int .i64 a0_7, .int .i64 a0_8], .int .i64 6] rfl (by (try simp only [List.map_toArray, List.map_cons, List.map_nil]); first | done | rfl | (simp only [List.length_drop, List.length_take]; rfl)) ?_; (with_reducible refine (unit_Check.calls k a0_0 a0_1 _ _ l0_2 a0_3 a0_4 a0_5 a0_6 a0_7 a0_8 6 t227 _ ?side1 ?side2 A2.out).mono ?_); (case side1 => repeat (first | exact (Kd.C_below HR0_2.out HB.out) | (with_reducible refine Kd.C_alloc ?_ _) | (with_reducible refine Kd.C_drewN ?_ _) | (with_reducible refine Kd.C_drew ?_))); (case side2 => exact HC0_2.out); rintro e w5 ⟨rfl, hb⟩; refine ⟨_, rfl, ?_⟩; have n0_ := Aside0.mk (blk_below (g := gb226) (o := .cells #[.int .i64 a0_0, .int .i64 a0_1, .slice A0_2 l0_2.length c0_2, .int .i64 a0_3, .int .i64 a0_4, .int .i64 a0_5, .int .i64 a0_6, .int .i64 a0_7, .int .i64 a0_8] 24 (0, 0)) (by (with_reducible repeat (first | refine blk_drewN ?_ _ | refine blk_drew ?_ | refine blk_alloc ?_ _)); exact BK226.out) hb); have n1_ := Aside0.mk (below_step (by repeat (first | (with_reducible first | exact HB.out | apply below_alloc | apply pw_below_drewN | apply below_drew1 | refine below_set ?_ GE226.out) | exact HB.out)) hb); clear BK226; clear HB; have BK226 := n0_; have HB := n1_; clear n0_ n1_; (try clear hb); (try clear hb2); (try clear hk); (try clear hi)))
  go_ret
  exact ⟨by first | rfl | (simp [errW_none, errW_some] <;> rfl) | (simp [*, errW_none, errW_some] <;> rfl), by repeat (first | (with_reducible first | exact HB.out | apply below_alloc | apply pw_below_drewN | apply below_drew1 | refine below_set ?_ GE226.out) | exact HB.out)⟩

end Go.Proofs.Ytelklgdmhnkenaa.U
/- Plain Lean: what the printed functions of the package unit come to. -/
namespace Go.Proofs.Ytelklgdmhnkenaa.U
open Go.RowKit Go.Proofs.YtelklgdmhnkenaaW.PrintWords Go.Proofs.YtelklgdmhnkenaaW.PrintLast Go.Proofs.YtelklgdmhnkenaaW.PrintMore
set_option linter.unusedVariables false
set_option linter.unusedSimpArgs false

theorem rdOf_at {α : Type} (d : α) (l : List α) (i : Nat) (h : i < l.length) : rdOf d l (i : Int) = l[i] := by
  unfold rdOf
  simp [h]
/-- What a valid unit keeps to. -/
structure Okay (b m : Int) (l : List S99) (up dn st id sp on : Int) : Prop where
  bus : 0 ≤ b ∧ b ≤ 5
  offer : wrongF true l = 0
  min : 0 ≤ m ∧ m ≤ qsum l
  up1 : 1 ≤ up ∧ up ≤ 6
  dn1 : 1 ≤ dn ∧ dn ≤ 6
  st1 : 0 ≤ st ∧ st ≤ 1000000000
  id1 : 0 ≤ id ∧ id ≤ 1000000000
  sp1 : 0 ≤ sp ∧ sp ≤ 1000000
  on1 : -6 ≤ on ∧ on ≤ 6 ∧ on ≠ 0
theorem okay_iff (b m : Int) (l : List S99) (up dn st id sp on : Int) : checkF b m l up dn st id sp on 6 = 0 ↔ Okay b m l up dn st id sp on := by
  have hw := wrongF_nonneg true l
  have e6 : wrap64 ((6 : Int) - 1) = 5 := wrap_id (by omega) (by omega)
  unfold checkF
  rw [e6]
  constructor
  · intro h
    split at h
    · omega
    · rename_i h1
      split at h
      · rename_i h2
        split at h
        · rename_i h3
          simp [inB, maxF, h2] at h1 h3
          refine ⟨by omega, h2, by omega, by omega, by omega, by omega, by omega, by omega, by omega⟩
        · omega
      · omega
  · rintro ⟨h0, h1, h2, h3, h4, h5, h6, h7, h8⟩
    rw [if_neg, if_pos h1, if_pos]
    · simp [inB, maxF, h1]
      omega
    · simp [inB]
      omega
section
variable {b m : Int} {l : List S99} {up dn st id sp on : Int}
def okB (b m : Int) (l : List S99) (up dn st id sp on : Int) : Bool := checkF b m l up dn st id sp on 6 == 0
theorem okB_iff : okB b m l up dn st id sp on = true ↔ Okay b m l up dn st id sp on := by
  unfold okB
  rw [beq_iff_eq]
  exact okay_iff _ _ _ _ _ _ _ _ _
theorem okB_false (h : okB b m l up dn st id sp on = false) : ¬ Okay b m l up dn st id sp on := fun h1 => by rw [okB_iff.2 h1] at h; cases h
theorem lawmay_f (b m : Int) (l : List S99) (up dn st id sp on : Int) : Evs (fun k => pylonlaw26_may.f k b m l up dn st id sp on) (okB b m l up dn st id sp on) := by
  unfold pylonlaw26_may.f okB
  exact Evs.bind (check_f b m l up dn st id sp on 6) (Evs.const rfl)
theorem may_f2 (b m : Int) (l : List S99) (up dn st id sp on : Int) : Evs (fun k => unit_may.f k b m l up dn st id sp on) (okB b m l up dn st id sp on) := may_f b m l up dn st id sp on
theorem next_evs (b m : Int) (l : List S99) (up dn st id sp on s : Int) (x : Bool) : Evs (fun k => unit_next.f k b m l up dn st id sp on s x) (nxF up dn s x) := by
  refine ⟨3, fun k hk => ?_⟩
  obtain ⟨k, rfl⟩ : ∃ j, k = 3 + j := ⟨k - 3, by omega⟩
  clear hk
  induction k with
  | zero => exact next_f b m l up dn st id sp on s x
  | succ k ih => exact unit_next.mono _ _ _ _ _ _ _ _ _ _ _ (3 + k) _ ih

/-- The first state. -/
def ini (up dn on : Int) : Int := mx (-dn) (mn up on)
def feasL (up dn : Int) : Int → List Bool → Bool
  | _, [] => true
  | s, x :: r => (nxF up dn s x).2 && feasL up dn (nxF up dn s x).1 r
def endL (up dn : Int) : Int → List Bool → Int
  | s, [] => s
  | s, x :: r => endL up dn (nxF up dn s x).1 r
def startsL : Bool → List Bool → Int
  | _, [] => 0
  | was, x :: r => (if x = true ∧ was = false then 1 else 0) + startsL x r
def onsL : List Bool → Int
  | [] => 0
  | x :: r => (if x = true then 1 else 0) + onsL r
theorem startsL_bound : ∀ (was : Bool) (r : List Bool), 0 ≤ startsL was r ∧ startsL was r ≤ r.length
  | _, [] => by simp [startsL]
  | was, x :: r => by
    have := startsL_bound x r
    rw [startsL, List.length_cons]
    split <;> omega
theorem onsL_bound : ∀ (r : List Bool), 0 ≤ onsL r ∧ onsL r ≤ r.length
  | [] => by simp [onsL]
  | x :: r => by
    have := onsL_bound r
    rw [onsL, List.length_cons]
    split <;> omega
theorem initF_ok (h : Okay b m l up dn st id sp on) : initF b m l up dn st id sp on = ini up dn on := by
  have h4 := h.dn1
  unfold initF ini
  rw [if_pos ((okay_iff _ _ _ _ _ _ _ _ _).2 h), wrap_id (by omega) (by omega)]
theorem init_ok (h : Okay b m l up dn st id sp on) : Evs (fun k => unit_Initial.f k b m l up dn st id sp on) (ini up dn on) := by
  rw [← initF_ok h]
  exact init_f b m l up dn st id sp on

theorem feas_loop (b m : Int) (l : List S99) (up dn st id sp on : Int) (row : List Bool) (hl : row.length ≤ 1000000) (d : Nat) : ∀ (i : Nat) (s : Int), row.length - i = d → i ≤ row.length →
    Evs (fun k => unit_Feasible.l0 k s row (row.length : Int) (i : Int) b m l up dn st id sp on) (feasL up dn s (row.drop i)) := by
  induction d with
  | zero =>
    intro i s hd hi
    refine Evs.succ (Evs.all fun k => ?_)
    simp only [unit_Feasible.l0]
    rw [if_neg (by omega), List.drop_eq_nil_of_le (by omega)]
    rfl
  | succ d ih =>
    intro i s hd hi
    have hlt : i < row.length := by omega
    rw [List.drop_eq_getElem_cons hlt, feasL]
    refine Evs.succ ?_
    simp only [unit_Feasible.l0]
    rw [rdOf_at _ _ _ hlt, wrap_id (by omega) (by omega)]
    refine Evs.congr (g := fun k => (unit_next.f k b m l up dn st id sp on s row[i]).bind fun bt139 => if bt139.2 = true then unit_Feasible.l0 k bt139.1 row (row.length : Int) ((i : Int) + 1) b m l up dn st id sp on else some false) ?_ (fun k => by rw [if_pos (by omega), if_pos (by omega), if_pos (by omega)])
    refine Evs.bind (next_evs b m l up dn st id sp on s row[i]) ?_
    cases hn : (nxF up dn s row[i]).2
    · simp only [Bool.false_and]
      exact Evs.const rfl
    · simp only [if_true, Bool.true_and]
      exact ih (i + 1) _ (by omega) (by omega)
theorem feas_f (b m : Int) (l : List S99) (up dn st id sp on : Int) (row : List Bool) (hl : row.length ≤ 1000000) : Evs (fun k => unit_Feasible.f k b m l up dn st id sp on row) (okB b m l up dn st id sp on && feasL up dn (ini up dn on) row) := by
  unfold unit_Feasible.f
  refine Evs.bind (may_f2 b m l up dn st id sp on) ?_
  cases h : okB b m l up dn st id sp on
  · exact Evs.const rfl
  · simp only [if_true, Bool.true_and]
    refine Evs.bind (init_ok (okB_iff.1 h)) ?_
    have := feas_loop b m l up dn st id sp on row hl row.length 0 (ini up dn on) (by omega) (by omega)
    rwa [List.drop_zero] at this
theorem feas_ok (h : Okay b m l up dn st id sp on) (row : List Bool) (hl : row.length ≤ 1000000) : Evs (fun k => unit_Feasible.f k b m l up dn st id sp on row) (feasL up dn (ini up dn on) row) := by
  have := feas_f b m l up dn st id sp on row hl
  rwa [okB_iff.2 h, Bool.true_and] at this
theorem starts_loop (row : List Bool) (hl : row.length ≤ 1000000) (d : Nat) : ∀ (i : Nat) (n : Int) (was : Bool), row.length - i = d → i ≤ row.length → 0 ≤ n → n ≤ i →
    Evs (fun k => unit_Starts.l0 k n was row (row.length : Int) (i : Int)) (n + startsL was (row.drop i)) := by
  induction d with
  | zero =>
    intro i n was hd hi h0 h1
    refine Evs.succ (Evs.all fun k => ?_)
    simp only [unit_Starts.l0]
    rw [if_neg (by omega), List.drop_eq_nil_of_le (by omega)]
    simp [startsL]
  | succ d ih =>
    intro i n was hd hi h0 h1
    have hlt : i < row.length := by omega
    rw [List.drop_eq_getElem_cons hlt, startsL]
    refine Evs.succ ?_
    simp only [unit_Starts.l0]
    rw [rdOf_at _ _ _ hlt, wrap_id (x := (i : Int) + 1) (by omega) (by omega), wrap_id (x := n + 1) (by omega) (by omega)]
    have a := ih (i + 1) n row[i] (by omega) (by omega) (by omega) (by omega)
    have c := ih (i + 1) (n + 1) row[i] (by omega) (by omega) (by omega) (by omega)
    refine Evs.congr (g := fun k => if row[i] = true then (if was = true then unit_Starts.l0 k n row[i] row (row.length : Int) ((i : Int) + 1) else unit_Starts.l0 k (n + 1) row[i] row (row.length : Int) ((i : Int) + 1)) else unit_Starts.l0 k n row[i] row (row.length : Int) ((i : Int) + 1)) ?_ (fun k => by rw [if_pos (by omega), if_pos (by omega), if_pos (by omega)])
    by_cases hr : row[i] = true
    · simp only [hr, if_true] at a c ⊢
      cases was
      · simpa [Int.add_assoc] using c
      · simpa using a
    · simp only [hr, if_false] at a c ⊢
      simpa [hr] using a
theorem starts_f (b m : Int) (l : List S99) (up dn st id sp on : Int) (row : List Bool) (hl : row.length ≤ 1000000) : Evs (fun k => unit_Starts.f k b m l up dn st id sp on row) (if okB b m l up dn st id sp on = true then startsL (decide (on > 0)) row else 0) := by
  unfold unit_Starts.f
  refine Evs.bind (may_f2 b m l up dn st id sp on) ?_
  cases h : okB b m l up dn st id sp on
  · exact Evs.const rfl
  · simp only [if_true]
    have := starts_loop row hl row.length 0 0 (decide (on > 0)) (by omega) (by omega) (by omega) (by omega)
    rwa [List.drop_zero, Int.zero_add] at this
theorem starts_ok (h : Okay b m l up dn st id sp on) (row : List Bool) (hl : row.length ≤ 1000000) : Evs (fun k => unit_Starts.f k b m l up dn st id sp on row) (startsL (decide (on > 0)) row) := by
  have := starts_f b m l up dn st id sp on row hl
  rwa [if_pos (okB_iff.2 h)] at this
theorem cost_loop (b m : Int) (l : List S99) (up dn st id sp on : Int) (hid : 0 ≤ id ∧ id ≤ 1000000000) (row : List Bool) (hl : row.length ≤ 1000000) (d : Nat) : ∀ (i : Nat) (n : Int), row.length - i = d → i ≤ row.length → 0 ≤ n → n ≤ 1000000 * 1000000000 + i * 1000000000 →
    Evs (fun k => unit_FixedCost.l0 k n row (row.length : Int) (i : Int) b m l up dn st id sp on) (n + onsL (row.drop i) * id) := by
  induction d with
  | zero =>
    intro i n hd hi h0 h1
    refine Evs.succ (Evs.all fun k => ?_)
    simp only [unit_FixedCost.l0]
    rw [if_neg (by omega), List.drop_eq_nil_of_le (by omega)]
    simp [onsL]
  | succ d ih =>
    intro i n hd hi h0 h1
    have hlt : i < row.length := by omega
    rw [List.drop_eq_getElem_cons hlt, onsL]
    refine Evs.succ ?_
    simp only [unit_FixedCost.l0]
    rw [rdOf_at _ _ _ hlt, wrap_id (x := (i : Int) + 1) (by omega) (by omega), wrap_id (x := n + id) (by omega) (by omega)]
    have a := ih (i + 1) n (by omega) (by omega) (by omega) (by omega)
    have c := ih (i + 1) (n + id) (by omega) (by omega) (by omega) (by omega)
    refine Evs.congr (g := fun k => if row[i] = true then unit_FixedCost.l0 k (n + id) row (row.length : Int) ((i : Int) + 1) b m l up dn st id sp on else unit_FixedCost.l0 k n row (row.length : Int) ((i : Int) + 1) b m l up dn st id sp on) ?_ (fun k => by rw [if_pos (by omega), if_pos (by omega), if_pos (by omega)])
    by_cases hr : row[i] = true
    · simp only [hr, if_true] at a c ⊢
      rw [Int.add_mul, Int.one_mul, ← Int.add_assoc]
      exact c
    · simp only [hr, if_false, Bool.false_eq_true, Int.zero_add] at a c ⊢
      exact a
theorem cost_ok (h : Okay b m l up dn st id sp on) (row : List Bool) (hl : row.length ≤ 1000000) : Evs (fun k => unit_FixedCost.f k b m l up dn st id sp on row) (startsL (decide (on > 0)) row * st + onsL row * id) := by
  have hs := startsL_bound (decide (on > 0)) row
  have h1 := h.st1
  have hm : 0 ≤ startsL (decide (on > 0)) row * st := Int.mul_nonneg hs.1 h1.1
  have hm2 : startsL (decide (on > 0)) row * st ≤ 1000000 * 1000000000 := Int.mul_le_mul (by omega) (by omega) (by omega) (by omega)
  unfold unit_FixedCost.f
  refine Evs.bind (may_f2 b m l up dn st id sp on) ?_
  simp only [okB_iff.2 h, if_true]
  refine Evs.bind (starts_ok h row hl) ?_
  rw [wrap_id (by omega) (by omega)]
  have := cost_loop b m l up dn st id sp on h.id1 row hl row.length 0 (startsL (decide (on > 0)) row * st) (by omega) (by omega) hm (by omega)
  rwa [List.drop_zero] at this
theorem pubnext_ok (h : Okay b m l up dn st id sp on) (s : Int) (x : Bool) (h0 : s ≠ 0) (h1 : -dn ≤ s ∧ s ≤ up) : Evs (fun k => unit_Next.f k b m l up dn st id sp on s x) (nxF up dn s x) := by
  have h4 := h.dn1
  unfold unit_Next.f
  refine Evs.bind (may_f2 b m l up dn st id sp on) ?_
  simp only [okB_iff.2 h, if_true, if_neg h0, within_f, Option.bind_some]
  rw [wrap_id (x := -dn) (by omega) (by omega), show inB s (-dn) up = true by simp [inB, h1]]
  simp only [if_true]
  exact Evs.bind (next_evs b m l up dn st id sp on s x) (Evs.const rfl)

/-! ### states -/
theorem ini_state (h : Okay b m l up dn st id sp on) : ini up dn on ≠ 0 ∧ -dn ≤ ini up dn on ∧ ini up dn on ≤ up ∧ (0 < ini up dn on ↔ 0 < on) := by
  have := h.up1; have := h.dn1; have := h.on1
  unfold ini mx mn
  split <;> split <;> omega
theorem nx_state (h : Okay b m l up dn st id sp on) {s : Int} {x : Bool} (h0 : s ≠ 0) (h1 : -dn ≤ s ∧ s ≤ up) (h2 : (nxF up dn s x).2 = true) :
    (nxF up dn s x).1 ≠ 0 ∧ -dn ≤ (nxF up dn s x).1 ∧ (nxF up dn s x).1 ≤ up ∧ (0 < (nxF up dn s x).1 ↔ x = true) := by
  have := h.up1; have := h.dn1
  revert h2
  unfold nxF mx mn
  rw [wrap_id (x := -dn) (by omega) (by omega), wrap_id (x := s + 1) (by omega) (by omega), wrap_id (x := s - 1) (by omega) (by omega)]
  cases x
  · by_cases a : s < 0
    · simp [a]; split <;> split <;> omega
    · by_cases c : s = up
      · have : ¬ up < 0 := by omega
        simp [c, this]; omega
      · simp [a, c]
  · by_cases a : s > 0
    · simp [a]; split <;> split <;> omega
    · by_cases c : s = -dn
      · have : ¬ dn < 0 := by omega
        simp [c, this]; omega
      · simp [a, c]
theorem nx_not {s : Int} {x : Bool} (h : Okay b m l up dn st id sp on) (h0 : s ≠ 0) (h2 : (nxF up dn s x).2 = false) : (nxF up dn s x).1 = 0 ∧ x ≠ decide (s > 0) ∧ s ≠ up ∧ s ≠ -dn := by
  have := h.up1; have := h.dn1
  revert h2
  unfold nxF
  rw [wrap_id (x := -dn) (by omega) (by omega)]
  cases x
  · by_cases a : s < 0
    · simp [a]
    · by_cases c : s = up
      · have : ¬ up < 0 := by omega
        simp [c, this]
      · simp [a, c]; omega
  · by_cases a : s > 0
    · simp [a]
    · by_cases c : s = -dn
      · have : ¬ dn < 0 := by omega
        simp [c, this]
      · simp [a, c]; omega
end
end Go.Proofs.Ytelklgdmhnkenaa.U
/- Plain Lean: the guards of the laws of layer 26. -/
namespace Go.Proofs.Ytelklgdmhnkenaa.U
open Go.RowKit Go.Proofs.YtelklgdmhnkenaaW.PrintWords Go.Proofs.YtelklgdmhnkenaaW.PrintLast Go.Proofs.YtelklgdmhnkenaaW.PrintMore
set_option linter.unusedVariables false
theorem guard_law {b m : Int} {l : List S99} {up dn st id sp on : Int} (J : Nat → Bool → Option Bool) (row : List Bool) (h1 : Evs (fun k => J k true) true) (h2 : Okay b m l up dn st id sp on → row.length ≤ 100 → Evs (fun k => J k false) true) :
    Evs (fun k => (pylonlaw26_Long.f b m l up dn st id sp on row).bind fun t => if t = true then J k true else (pylonlaw26_may.f k b m l up dn st id sp on).bind fun t => if t = true then (pylonlaw26_awake.f).bind fun t => J k (!t) else J k true) true := by
  unfold pylonlaw26_Long.f
  by_cases hl : (l.length : Int) > 100
  · simp only [if_pos hl, Option.bind_some, if_true]
    exact h1
  · simp only [if_neg hl, Option.bind_some, decide_eq_true_eq]
    by_cases hr : (row.length : Int) > 100
    · simp only [if_pos hr]
      exact h1
    · simp only [if_neg hr]
      refine Evs.bind (lawmay_f b m l up dn st id sp on) ?_
      cases hk : okB b m l up dn st id sp on
      · simp only [Bool.false_eq_true, if_false]
        exact h1
      · simp only [if_true]
        exact h2 (okB_iff.1 hk) (by omega)
section
variable {b m : Int} {l : List S99} {up dn st id sp on : Int}
theorem nx_stay (h : Okay b m l up dn st id sp on) {s : Int} (h1 : -dn ≤ s ∧ s ≤ up) {x : Bool} (hs : if x = true then 0 < s else s < 0) : (nxF up dn s x).2 = true := by
  have hu := h.up1; have hd := h.dn1
  unfold nxF
  cases x
  · have : s < 0 := by simpa using hs
    simp [this]
  · have : 0 < s := by simpa using hs
    simp [this]
theorem feasL_stay (h : Okay b m l up dn st id sp on) (x : Bool) : ∀ (n : Nat) (s : Int), s ≠ 0 → -dn ≤ s ∧ s ≤ up → (if x = true then 0 < s else s < 0) → feasL up dn s (List.replicate n x) = true
  | 0, _, _, _, _ => rfl
  | n + 1, s, h0, h1, hs => by
    have e := nx_stay h h1 hs
    obtain ⟨n0, n1, n2, n3⟩ := nx_state h h0 h1 e
    rw [List.replicate_succ, feasL, e, Bool.true_and]
    refine feasL_stay h x n _ n0 ⟨n1, n2⟩ ?_
    cases x
    · simp at n3 ⊢
      omega
    · simpa using n3
end
end Go.Proofs.Ytelklgdmhnkenaa.U
/- Lean functions with the answers of Go functions, and proofs that the calls come to these answers (lines by a program of this session, wip/patch_print.py, over the kit's print tool). -/
namespace Go.Proofs.Ytelklgdmhnkenaa.U
open Go.RowKit Go.Proofs.YtelklgdmhnkenaaW.PrintWords Go.Proofs.YtelklgdmhnkenaaW.PrintLast Go.Proofs.YtelklgdmhnkenaaW.PrintMore
attribute [local go_sem] max2_int min2_int max_two min_two max_three min_three max_four min_four   -- for this text's walks alone
set_option linter.unusedVariables false
set_option linter.unusedSimpArgs false

/-! ### pylonref26_All: function 26 -/
def pylonref26_All.f (k : Nat) (a0 : Int) : Option ((List (List Bool))) := (pylonref26_all.f k a0).bind fun t272 => (some t272)
set_option maxHeartbeats 8000000 in
set_option maxRecDepth 100000 in
theorem pylonref26_All.calls (k : Nat) (a0 : Int) (r : List (List Bool)) (w : World) (h : pylonref26_All.f k a0 = some r) :
    Calls Try.prog 26 #[.int .i64 a0] w fun e w' => ∃ v0_ : Value, e = .returned (v0_) ∧ Kd.S (Kd.slice 4 Kd.bool) 32 w' w.heap.size (fun _ => True) v0_ r ∧ Below w.heap.size w w' := by
  have HB := Aside0.mk (Below.refl w.heap.size w)
  have H : ((pylonref26_all.f k a0).bind fun t272 => (some t272)) = some r := h
  clear h
  replace H := Option.bind_eq_some_iff.mp H
  obtain ⟨t272, A20, H⟩ := H
  replace H : (some t272) = some r := H
  have A2 := Aside0.mk A20
  clear A20
  obtain rfl := Option.some.inj H
  go_enter Try.func26, Try.ntmps26
  go_wp2_with (first | ((with_reducible refine gate_callee (f := 43) rfl ?_); refine goesL_ (some 4) rfl rfl Try.func43 (by kernel_rfl) rfl #[.int .i64 a0] rfl (by (try simp only [List.map_toArray, List.map_cons, List.map_nil]); first | done | rfl | (simp only [List.length_drop, List.length_take]; rfl)) ?_; (with_reducible refine (pylonref26_all.calls k a0 t272 _ A2.out).mono ?_); rintro e w3 ⟨v273, rfl, ho0, hb⟩; refine ⟨_, rfl, ?_⟩; have n0_ := Aside0.mk (Kd.S_lower ho0 (below_size (by repeat (first | (with_reducible first | exact HB.out | apply below_alloc | apply pw_below_drewN | apply below_drew1) | exact HB.out)))); have n1_ := Aside0.mk (below_step (by repeat (first | (with_reducible first | exact HB.out | apply below_alloc | apply pw_below_drewN | apply below_drew1) | exact HB.out)) hb); clear HB; have HO274 := n0_; have HB := n1_; clear n0_ n1_; (try clear hb); (try clear hb2); (try clear hk); (try clear hi); (try clear ho0)))
  go_ret
  exact ⟨_, by first | rfl | (simp [errW_none, errW_some] <;> rfl) | (simp [*, errW_none, errW_some] <;> rfl), by (with_reducible repeat (first | apply Kd.S_alloc | apply Kd.S_drewN | apply Kd.S_drew)); exact HO274.out, by repeat (first | (with_reducible first | exact HB.out | apply below_alloc | apply pw_below_drewN | apply below_drew1) | exact HB.out)⟩

end Go.Proofs.Ytelklgdmhnkenaa.U
/- Plain Lean: all rows of hours, and the comparisons of the reference of layer 26. -/
namespace Go.Proofs.Ytelklgdmhnkenaa.U
open Go.RowKit Go.Proofs.YtelklgdmhnkenaaW.PrintWords Go.Proofs.YtelklgdmhnkenaaW.PrintLast Go.Proofs.YtelklgdmhnkenaaW.PrintMore
set_option linter.unusedVariables false
set_option linter.unusedSimpArgs false
theorem rd_L5_at (l : List (List Bool)) (i : Nat) (h : i < l.length) : rd_L5 l (i : Int) = l[i] := by
  unfold rd_L5
  simp [h]
def allL : Nat → List (List Bool)
  | 0 => [[]]
  | d + 1 => (allL d).map (false :: ·) ++ (allL d).map (true :: ·)
theorem allL_length : ∀ d, (allL d).length = 2 ^ d
  | 0 => rfl
  | d + 1 => by rw [allL, List.length_append, List.length_map, List.length_map, allL_length d, Nat.pow_succ]; omega
theorem allL_mem : ∀ (d : Nat) (r : List Bool), r ∈ allL d → r.length = d
  | 0, r, h => by simp [allL] at h; subst h; rfl
  | d + 1, r, h => by
    simp only [allL, List.mem_append, List.mem_map] at h
    rcases h with ⟨a, ha, rfl⟩ | ⟨a, ha, rfl⟩ <;> simp [allL_mem d a ha]
theorem allL_rep (x : Bool) : ∀ (d : Nat), List.replicate d x ∈ allL d
  | 0 => by simp [allL]
  | d + 1 => by
    simp only [allL, List.mem_append, List.mem_map, List.replicate_succ]
    cases x
    · exact Or.inl ⟨_, allL_rep false d, rfl⟩
    · exact Or.inr ⟨_, allL_rep true d, rfl⟩
theorem pow8 {d : Nat} (h : d ≤ 8) : 2 ^ d ≤ 256 := Nat.le_trans (Nat.pow_le_pow_right (by omega) h) (by decide)
theorem all_l1 (xs : List (List Bool)) (hl : xs.length ≤ 256) (hm : ∀ r ∈ xs, r.length ≤ 1000) (b : Int) (B : Nat) (hB : B ≤ 100000) (R : List (List Bool) → List (List Bool))
    (hn : ∀ acc : List (List Bool), acc.length ≤ B → Evs (fun k => pylonref26_all.l0 k acc xs (wrap64 (b + 1))) (R acc)) (d : Nat) : ∀ (i : Nat) (acc : List (List Bool)), xs.length - i = d → i ≤ xs.length → acc.length + (xs.length - i) ≤ B →
    Evs (fun k => pylonref26_all.l1 k acc xs b (i : Int)) (R (acc ++ (xs.drop i).map ((b == 1) :: ·))) := by
  induction d with
  | zero =>
    intro i acc hd hi ha
    refine Evs.succ ?_
    simp only [pylonref26_all.l1]
    rw [List.drop_eq_nil_of_le (by omega), List.map_nil, List.append_nil]
    simp only [if_neg (show ¬ (i : Int) < (xs.length : Int) by omega)]
    exact hn acc (by omega)
  | succ d ih =>
    intro i acc hd hi ha
    have hlt : i < xs.length := by omega
    have hmi := hm _ (List.getElem_mem hlt)
    have a := ih (i + 1) (acc ++ [(b == 1) :: xs[i]]) (by omega) (by omega) (by simp; omega)
    rw [List.append_assoc, List.singleton_append, ← List.map_cons (f := ((b == 1) :: ·)), ← List.drop_eq_getElem_cons hlt] at a
    refine Evs.succ ?_
    simp only [pylonref26_all.l1]
    rw [wrap_id (x := (i : Int) + 1) (by omega) (by omega), rd_L5_at _ _ hlt]
    refine a.congr fun k => ?_
    rw [if_pos (by omega)]
    simp only [Option.bind_some]
    rw [if_pos (by omega), if_pos (by simp; omega), if_pos (by omega)]
    rfl
theorem all_f : ∀ (d : Nat), d ≤ 8 → Evs (fun k => pylonref26_all.f k (d : Int)) (allL d)
  | 0, _ => Evs.succ (Evs.all fun k => by simp only [pylonref26_all.f]; rfl)
  | d + 1, h => by
    have hl : (allL d).length ≤ 256 := by rw [allL_length]; exact pow8 (by omega)
    have hm : ∀ r ∈ allL d, r.length ≤ 1000 := fun r hr => by rw [allL_mem d r hr]; omega
    refine Evs.succ ?_
    simp only [pylonref26_all.f]
    simp only [if_neg (show ¬ (((d + 1 : Nat) : Int) = 0) by omega)]
    rw [show wrap64 (((d + 1 : Nat) : Int) - 1) = (d : Int) by rw [wrap_id (by omega) (by omega)]; omega]
    refine Evs.bind (all_f d (by omega)) ?_
    have s2 : ∀ acc : List (List Bool), Evs (fun k => pylonref26_all.l0 k acc (allL d) 2) acc := fun acc => Evs.succ (Evs.all fun k => by simp only [pylonref26_all.l0]; rfl)
    have t1 := fun (acc : List (List Bool)) (ha : acc.length ≤ 256) => all_l1 (allL d) hl hm 1 512 (by omega) (fun a => a) (fun acc _ => by rw [show wrap64 ((1 : Int) + 1) = 2 from wrap_id (by omega) (by omega)]; exact s2 acc) _ 0 acc rfl (by omega) (by omega)
    have t0 := all_l1 (allL d) hl hm 0 256 (by omega) (fun a => a ++ (allL d).map (true :: ·)) (fun acc ha => by
      rw [show wrap64 ((0 : Int) + 1) = 1 from wrap_id (by omega) (by omega)]
      refine Evs.succ ?_
      simp only [pylonref26_all.l0, if_pos (show (1 : Int) < 2 by omega)]
      exact t1 acc ha) _ 0 [] rfl (by omega) (by simp; omega)
    refine Evs.succ ?_
    simp only [pylonref26_all.l0, if_pos (show (0 : Int) < 2 by omega)]
    exact t0
theorem same_loop (a c : List Bool) (hl : a.length ≤ 1000000) (hc : a.length = c.length) (d : Nat) : ∀ (i : Nat), a.length - i = d → i ≤ a.length → Evs (fun k => pylonref26_Same.l0 k a c (i : Int)) (decide (a.drop i = c.drop i)) := by
  induction d with
  | zero =>
    intro i hd hi
    refine Evs.succ (Evs.all fun k => ?_)
    simp only [pylonref26_Same.l0]
    rw [if_neg (by omega), List.drop_eq_nil_of_le (by omega), List.drop_eq_nil_of_le (by omega)]
    rfl
  | succ d ih =>
    intro i hd hi
    have hlt : i < a.length := by omega
    have hlc : i < c.length := by omega
    rw [List.drop_eq_getElem_cons hlt, List.drop_eq_getElem_cons hlc]
    refine Evs.succ ?_
    simp only [pylonref26_Same.l0]
    rw [rdOf_at _ _ _ hlt, rdOf_at _ _ _ hlc, wrap_id (by omega) (by omega)]
    simp only [if_pos (show (i : Int) < (a.length : Int) by omega), if_pos (show (0 : Int) ≤ (i : Int) by omega), if_pos (show (i : Int) < (c.length : Int) by omega)]
    by_cases he : a[i] = c[i]
    · have := ih (i + 1) (by omega) (by omega)
      simp only [he, bne_self_eq_false, Bool.false_eq_true, if_false, List.cons.injEq, true_and]
      exact this
    · simp only [List.cons.injEq, he, false_and, decide_false]
      simp only [if_pos (show (a[i] != c[i]) = true by simpa using he)]
      exact Evs.const rfl
theorem same_f (a c : List Bool) (hl : a.length ≤ 1000000) : Evs (fun k => pylonref26_Same.f k a c) (decide (a = c)) := by
  unfold pylonref26_Same.f
  by_cases hc : a.length = c.length
  · simp only [if_pos (show (a.length : Int) = (c.length : Int) by omega)]
    exact same_loop a c hl hc _ 0 rfl (by omega)
  · simp only [if_neg (show ¬ (a.length : Int) = (c.length : Int) by omega)]
    exact Evs.const (by rw [decide_eq_false (fun e => hc (by rw [e]))])
/-- The schedules are the feasible rows, in order. -/
theorem schedFrom_filter (up dn : Int) : ∀ (d : Nat) (pre : List Bool) (s : Int), schedFrom up dn d pre s = ((allL d).filter (feasL up dn s)).map (pre ++ ·)
  | 0, pre, s => by
    have : (allL 0).filter (feasL up dn s) = [[]] := rfl
    rw [this]
    simp [schedFrom]
  | d + 1, pre, s => by
    have key : ∀ x : Bool, (if (nxF up dn s x).2 = true then schedFrom up dn d (pre ++ [x]) (nxF up dn s x).1 else []) = (((allL d).map (x :: ·)).filter (feasL up dn s)).map (pre ++ ·) := fun x => by
      rw [List.filter_map, List.map_map]
      cases hn : (nxF up dn s x).2
      · have : (allL d).filter (feasL up dn s ∘ (x :: ·)) = [] := by
          rw [List.filter_eq_nil_iff]
          intro a _
          simp [feasL, hn]
        rw [this]
        simp
      · have : (feasL up dn s ∘ (x :: ·)) = feasL up dn (nxF up dn s x).1 := by
          funext a
          simp [feasL, hn]
        rw [this, if_pos rfl, schedFrom_filter up dn d]
        congr 1
        funext a
        simp
    rw [schedFrom, key false, key true, allL, List.filter_append, List.map_append]
end Go.Proofs.Ytelklgdmhnkenaa.U
/- Plain Lean: what the printed functions of the references of layers 23 and 26 come to: the same as the program's. -/
namespace Go.Proofs.Ytelklgdmhnkenaa.U
open Go.RowKit Go.Proofs.YtelklgdmhnkenaaW.PrintWords Go.Proofs.YtelklgdmhnkenaaW.PrintLast Go.Proofs.YtelklgdmhnkenaaW.PrintMore
set_option linter.unusedVariables false
set_option linter.unusedSimpArgs false
theorem own23_f (q p : Int) : pylonref23_own.f q p = some (if q < 1 ∨ 1000000 < q ∨ p < -1000000 ∨ 1000000 < p then 1 else 0) := by
  unfold pylonref23_own.f
  by_cases h1 : q < 1
  · simp [h1]
  · by_cases h2 : q > 1000000
    · have : 1000000 < q := h2
      simp [h1, this]
    · by_cases h3 : p < -1000000
      · simp [h1, h3]
      · by_cases h4 : p > 1000000
        · have h5 : 1000000 < p := h4
          have h6 : ¬ 1000000 < q := h2
          simp [h1, h3, h5, h6]
        · have h5 : ¬ 1000000 < p := h4
          have h6 : ¬ 1000000 < q := h2
          simp [h1, h3, h5, h6]
theorem many23_f (l : List S99) : pylonref23_many.f l = some (if l.length = 0 then 4 else if 3 < l.length then 5 else 0) := by
  unfold pylonref23_many.f
  by_cases h : l.length = 0
  · simp [h]
  · by_cases h3 : 3 < l.length
    · have : (l.length : Int) > 3 := by omega
      rw [if_neg (by omega), if_pos this, if_neg h, if_pos h3]
    · rw [if_neg (by omega), if_neg (by omega), if_neg h, if_neg h3]
theorem offer_err (l : List S99) (e : Int) (he : e ≠ 0) (i : Int) : Evs (fun k => pylonref23_CheckOffer.l0 k l e i) e := by
  refine Evs.succ ?_
  simp only [pylonref23_CheckOffer.l0, beq_eq_false_iff_ne.2 he, ite_self]
  refine Evs.succ (Evs.all fun k => ?_)
  simp only [pylonref23_CheckOffer.j1]
  rfl
theorem bid_err (l : List S99) (e : Int) (he : e ≠ 0) (i : Int) : Evs (fun k => pylonref23_CheckBid.l0 k l e i) e := by
  refine Evs.succ ?_
  simp only [pylonref23_CheckBid.l0, beq_eq_false_iff_ne.2 he, ite_self]
  refine Evs.succ (Evs.all fun k => ?_)
  simp only [pylonref23_CheckBid.j1]
  rfl
theorem offer_loop (l : List S99) (hl : l.length ≤ 3) (d : Nat) : ∀ (i : Nat), l.length - i = d → i ≤ l.length → Evs (fun k => pylonref23_CheckOffer.l0 k l 0 (i : Int)) (wrongFrom true (prevAt l i) (l.drop i)) := by
  induction d with
  | zero =>
    intro i hd hi
    rw [wrong_end _ _ _ _ (by omega)]
    refine Evs.succ ?_
    simp only [pylonref23_CheckOffer.l0, if_neg (show ¬ (i : Int) < (l.length : Int) by omega)]
    refine Evs.succ (Evs.all fun k => ?_)
    simp only [pylonref23_CheckOffer.j1]
    rfl
  | succ d ih =>
    intro i hd hi
    have hlt : i < l.length := by omega
    have hn := ih (i + 1) (by omega) (by omega)
    rw [wrong_step true l i hlt]
    refine Evs.succ ?_
    simp only [pylonref23_CheckOffer.l0, if_pos (show (i : Int) < (l.length : Int) by omega), beq_self_eq_true]
    refine Evs.succ ?_
    simp only [pylonref23_CheckOffer.j1, if_true, if_pos (show (0 : Int) ≤ (i : Int) by omega), if_pos (show (i : Int) < (l.length : Int) by omega), own23_f, Option.bind_some]
    rw [wrap_id (x := (i : Int) + 1) (by omega) (by omega)]
    by_cases hb : (rd_T99 l i).f0 < 1 ∨ 1000000 < (rd_T99 l i).f0 ∨ (rd_T99 l i).f1 < -1000000 ∨ 1000000 < (rd_T99 l i).f1
    · simp only [if_pos hb, show ¬ ((1 : Int) = 0) by omega, if_false]
      exact offer_err l 1 (by omega) _
    · simp only [if_neg hb, if_true]
      by_cases h0 : i = 0
      · subst h0
        have e : cutB true (prevAt l 0) (rd_T99 l (0 : Nat)).f1 = false := rfl
        rw [e]
        simp only [Bool.false_eq_true, if_false, show ¬ (((0 : Nat) : Int) > 0) by omega]
        exact hn
      · have e : prevAt l i = some (rd_T99 l ((i : Int) - 1)).f1 := by unfold prevAt; rw [if_neg h0]
        rw [e]
        simp only [if_pos (show (i : Int) > 0 by omega)]
        rw [wrap_id (x := (i : Int) - 1) (by omega) (by omega)]
        simp only [if_pos (show (0 : Int) ≤ (i : Int) - 1 by omega), if_pos (show (i : Int) - 1 < (l.length : Int) by omega), cutB, afterB, if_true]
        by_cases hp : (rd_T99 l i).f1 ≤ (rd_T99 l ((i : Int) - 1)).f1
        · have : ¬ (rd_T99 l ((i : Int) - 1)).f1 < (rd_T99 l i).f1 := by omega
          simp only [if_pos hp, this, decide_false, Bool.not_false, if_true]
          exact offer_err l 3 (by omega) _
        · have : (rd_T99 l ((i : Int) - 1)).f1 < (rd_T99 l i).f1 := by omega
          simp only [if_neg hp, this, decide_true, Bool.not_true, Bool.false_eq_true, if_false]
          exact hn
theorem bid_loop (l : List S99) (hl : l.length ≤ 3) (d : Nat) : ∀ (i : Nat), l.length - i = d → i ≤ l.length → Evs (fun k => pylonref23_CheckBid.l0 k l 0 (i : Int)) (wrongFrom false (prevAt l i) (l.drop i)) := by
  induction d with
  | zero =>
    intro i hd hi
    rw [wrong_end _ _ _ _ (by omega)]
    refine Evs.succ ?_
    simp only [pylonref23_CheckBid.l0, if_neg (show ¬ (i : Int) < (l.length : Int) by omega)]
    refine Evs.succ (Evs.all fun k => ?_)
    simp only [pylonref23_CheckBid.j1]
    rfl
  | succ d ih =>
    intro i hd hi
    have hlt : i < l.length := by omega
    have hn := ih (i + 1) (by omega) (by omega)
    rw [wrong_step false l i hlt]
    refine Evs.succ ?_
    simp only [pylonref23_CheckBid.l0, if_pos (show (i : Int) < (l.length : Int) by omega), beq_self_eq_true]
    refine Evs.succ ?_
    simp only [pylonref23_CheckBid.j1, if_true, if_pos (show (0 : Int) ≤ (i : Int) by omega), if_pos (show (i : Int) < (l.length : Int) by omega), own23_f, Option.bind_some]
    rw [wrap_id (x := (i : Int) + 1) (by omega) (by omega)]
    by_cases hb : (rd_T99 l i).f0 < 1 ∨ 1000000 < (rd_T99 l i).f0 ∨ (rd_T99 l i).f1 < -1000000 ∨ 1000000 < (rd_T99 l i).f1
    · simp only [if_pos hb, show ¬ ((1 : Int) = 0) by omega, if_false]
      exact bid_err l 1 (by omega) _
    · simp only [if_neg hb, if_true]
      by_cases h0 : i = 0
      · subst h0
        have e : cutB false (prevAt l 0) (rd_T99 l (0 : Nat)).f1 = false := rfl
        rw [e]
        simp only [Bool.false_eq_true, if_false, show ¬ (((0 : Nat) : Int) > 0) by omega]
        exact hn
      · have e : prevAt l i = some (rd_T99 l ((i : Int) - 1)).f1 := by unfold prevAt; rw [if_neg h0]
        rw [e]
        simp only [if_pos (show (i : Int) > 0 by omega)]
        rw [wrap_id (x := (i : Int) - 1) (by omega) (by omega)]
        simp only [if_pos (show (0 : Int) ≤ (i : Int) - 1 by omega), if_pos (show (i : Int) - 1 < (l.length : Int) by omega), cutB, afterB, Bool.false_eq_true, if_false]
        by_cases hp : (rd_T99 l i).f1 ≥ (rd_T99 l ((i : Int) - 1)).f1
        · have : ¬ (rd_T99 l i).f1 < (rd_T99 l ((i : Int) - 1)).f1 := by omega
          simp only [if_pos hp, this, decide_false, Bool.not_false, if_true]
          exact bid_err l 3 (by omega) _
        · have : (rd_T99 l i).f1 < (rd_T99 l ((i : Int) - 1)).f1 := by omega
          simp only [if_neg hp, this, decide_true, Bool.not_true, Bool.false_eq_true, if_false]
          exact hn
theorem refOffer_f (l : List S99) : Evs (fun k => pylonref23_CheckOffer.f k l) (wrongF true l) := by
  unfold pylonref23_CheckOffer.f wrongF
  simp only [many23_f, Option.bind_some]
  by_cases h : l.length = 0
  · simp only [if_pos h]
    exact offer_err l 4 (by omega) 0
  · simp only [if_neg h]
    by_cases h3 : 3 < l.length
    · simp only [if_pos h3]
      exact offer_err l 5 (by omega) 0
    · simp only [if_neg h3]
      exact offer_loop l (by omega) _ 0 rfl (by omega)
theorem refBid_f (l : List S99) : Evs (fun k => pylonref23_CheckBid.f k l) (wrongF false l) := by
  unfold pylonref23_CheckBid.f wrongF
  simp only [many23_f, Option.bind_some]
  by_cases h : l.length = 0
  · simp only [if_pos h]
    exact bid_err l 4 (by omega) 0
  · simp only [if_neg h]
    by_cases h3 : 3 < l.length
    · simp only [if_pos h3]
      exact bid_err l 5 (by omega) 0
    · simp only [if_neg h3]
      exact bid_loop l (by omega) _ 0 rfl (by omega)
theorem refCurve_f (l : List S99) : Evs (fun k => pylonref23_Curve.f k l) (curveF l) := by
  unfold pylonref23_Curve.f curveF
  refine Evs.bind (refBid_f l) ?_
  by_cases h : wrongF false l = 0
  · simp only [if_pos h]
    exact Evs.const rfl
  · simp only [if_neg h]
    exact Evs.bind (refOffer_f l) (Evs.const rfl)
theorem refSum_loop (l : List S99) (hc : curveF l = 0) (d : Nat) : ∀ (i : Nat) (acc : Int), l.length - i = d → i ≤ l.length → 0 ≤ acc → acc ≤ 1000000 * i →
    Evs (fun k => pylonref23_Sum.l0 k l acc (i : Int)) (acc + qsum (l.drop i)) := by
  obtain ⟨hl, _, hx⟩ := curve_ok hc
  induction d with
  | zero =>
    intro i acc hd hi h0 h1
    refine Evs.succ (Evs.all fun k => ?_)
    simp only [pylonref23_Sum.l0]
    rw [if_neg (by omega), List.drop_eq_nil_of_le (by omega)]
    simp [qsum]
  | succ d ih =>
    intro i acc hd hi h0 h1
    have hlt : i < l.length := by omega
    have hx1 := hx l[i] (List.getElem_mem hlt)
    have e := rd99 l i hlt
    have h := ih (i + 1) (acc + l[i].f0) (by omega) (by omega) (by omega) (by omega)
    rw [Int.add_assoc, ← qsum_cons, ← List.drop_eq_getElem_cons hlt] at h
    refine Evs.succ ?_
    simp only [pylonref23_Sum.l0, if_pos (show (i : Int) < (l.length : Int) by omega)]
    refine Evs.bind (refCurve_f l) ?_
    rw [e, wrap_id (x := acc + l[i].f0) (by omega) (by omega), wrap_id (x := (i : Int) + 1) (by omega) (by omega)]
    simp only [if_pos hc, if_pos (show (0 : Int) ≤ (i : Int) by omega)]
    exact h
theorem refSum_f (l : List S99) : Evs (fun k => pylonref23_Sum.f k l) (sumF l) := by
  unfold pylonref23_Sum.f sumF
  by_cases hc : curveF l = 0
  · have h := refSum_loop l hc _ 0 0 rfl (by omega) (by omega) (by omega)
    rw [if_pos hc]
    rwa [Int.zero_add, List.drop_zero] at h
  · rw [if_neg hc]
    refine Evs.succ ?_
    simp only [pylonref23_Sum.l0]
    by_cases h0 : (0 : Int) < (l.length : Int)
    · simp only [if_pos h0]
      refine Evs.bind (refCurve_f l) ?_
      simp only [if_neg hc]
      exact Evs.const rfl
    · simp only [if_neg h0]
      exact Evs.const rfl
theorem refMax_f (a0 a1 : Int) (l : List S99) (a3 a4 a5 a6 a7 a8 : Int) : Evs (fun k => pylonref26_Max.f k a0 a1 l a3 a4 a5 a6 a7 a8) (maxF l) := by
  unfold pylonref26_Max.f maxF
  refine Evs.bind (refOffer_f l) ?_
  by_cases h : wrongF true l = 0
  · simp only [if_pos h]
    refine Evs.bind (refSum_f l) (Evs.const ?_)
    unfold sumF curveF
    rw [h]
    simp
  · simp only [if_neg h]
    exact Evs.const rfl
theorem refCheck_f (b m : Int) (l : List S99) (up dn st id sp on : Int) : Evs (fun k => pylonref26_Check.f k b m l up dn st id sp on 6) (checkF b m l up dn st id sp on 6) := by
  have e6 : wrap64 ((6 : Int) - 1) = 5 := wrap_id (by omega) (by omega)
  unfold pylonref26_Check.f checkF
  rw [e6]
  have ht : Evs (fun k => pylonref26_Check.j0 k true b m l up dn st id sp on) 1 := Evs.succ (Evs.all fun k => by simp only [pylonref26_Check.j0]; rfl)
  by_cases h0 : b < 0
  · simp only [if_pos h0]
    rw [if_pos (by simp [inB]; omega)]
    exact ht
  · simp only [if_neg h0]
    by_cases h1 : b ≥ 6
    · simp only [h1, decide_true]
      rw [if_pos (by simp [inB]; omega)]
      exact ht
    · simp only [h1, decide_false]
      rw [if_neg (by simp [inB]; omega)]
      refine Evs.succ ?_
      simp only [pylonref26_Check.j0, Bool.false_eq_true, if_false]
      refine Evs.bind (refOffer_f l) ?_
      by_cases hw : wrongF true l = 0
      · simp only [if_pos hw]
        by_cases hm : m < 0
        · simp only [if_pos hm]
          rw [if_neg (by simp [inB]; omega)]
          exact Evs.const rfl
        · simp only [if_neg hm]
          refine Evs.bind (refMax_f b m l up dn st id sp on) ?_
          by_cases hgood : (inB m 0 (maxF l) && inB sp 0 1000000 && (inB up 1 6 && inB dn 1 6 && inB on (-6) 6 && (on != 0)) && (inB st 0 1000000000 && inB id 0 1000000000)) = true
          · rw [if_pos hgood]
            simp [inB] at hgood
            refine Evs.const ?_
            rw [if_neg (by omega), if_neg (by omega), if_neg (by omega), if_neg (by omega), if_neg (by omega), if_neg (by omega), if_neg (by omega), if_neg (by omega), if_neg (by omega), if_neg (by omega), if_neg (by omega), if_neg (by omega), if_neg (by omega), if_neg (by omega)]
          · rw [if_neg hgood]
            simp [inB] at hgood
            refine Evs.const ?_
            repeat (refine (ite_eq_left_iff.2 fun _ => ?_))
            exfalso
            omega
      · simp only [if_neg hw]
        exact Evs.const rfl
theorem refMay_f (b m : Int) (l : List S99) (up dn st id sp on : Int) : Evs (fun k => pylonref26_may.f k b m l up dn st id sp on) (okB b m l up dn st id sp on) := by
  unfold pylonref26_may.f okB
  exact Evs.bind (refCheck_f b m l up dn st id sp on) (Evs.const rfl)
section
variable {b m : Int} {l : List S99} {up dn st id sp on : Int}
/-- The state after r hours alike. -/
def stOf (up dn : Int) (cur : Bool) (r : Int) : Int := if cur = true then mn up r else mx (-dn) (-r)
theorem st_same (h : Okay b m l up dn st id sp on) (x : Bool) (r : Int) (h1 : 1 ≤ r) (h2 : r ≤ 1000000) : nxF up dn (stOf up dn x r) x = (stOf up dn x (r + 1), true) := by
  have hu := h.up1; have hd := h.dn1
  unfold nxF stOf mx mn
  cases x
  · rw [if_neg (by simp), if_pos ⟨rfl, by simp only [Bool.false_eq_true, if_false]; split <;> omega⟩]
    simp only [Bool.false_eq_true, if_false]
    rw [wrap_id (x := -dn) (by omega) (by omega), wrap_id (by split <;> omega) (by split <;> omega)]
    congr 1
    split <;> split <;> (try split) <;> (try split) <;> omega
  · rw [if_pos ⟨rfl, by simp only [if_true]; split <;> omega⟩]
    simp only [if_true]
    rw [wrap_id (x := -dn) (by omega) (by omega), wrap_id (by split <;> omega) (by split <;> omega)]
    congr 1
    split <;> split <;> (try split) <;> (try split) <;> omega
theorem st_other (h : Okay b m l up dn st id sp on) (cur : Bool) (r : Int) (h1 : 1 ≤ r) : nxF up dn (stOf up dn cur r) (!cur) = if r < (if cur = true then up else dn) then (0, false) else (stOf up dn (!cur) 1, true) := by
  have hu := h.up1; have hd := h.dn1
  by_cases hr : r < (if cur = true then up else dn)
  · rw [if_pos hr]
    unfold nxF stOf mx mn
    rw [wrap_id (x := -dn) (by omega) (by omega)]
    cases cur
    · simp only [Bool.false_eq_true, if_false] at hr
      have e1 : ¬ (if -dn < -r then -r else -dn) > 0 := by split <;> omega
      have e2 : ¬ (if -dn < -r then -r else -dn) = -dn := by split <;> omega
      simp only [Bool.false_eq_true, Bool.not_false, Bool.true_eq_false, if_false, false_and, true_and]
      rw [if_neg e1, if_neg e2]
    · simp only [if_true] at hr
      have e1 : ¬ (if r < up then r else up) < 0 := by split <;> omega
      have e2 : ¬ (if r < up then r else up) = up := by split <;> omega
      simp only [Bool.false_eq_true, Bool.not_true, if_true, if_false, false_and, true_and]
      rw [if_neg e1, if_neg e2]
  · rw [if_neg hr]
    unfold nxF stOf mx mn
    rw [wrap_id (x := -dn) (by omega) (by omega)]
    cases cur
    · simp only [Bool.false_eq_true, if_false] at hr
      have e1 : ¬ (if -dn < -r then -r else -dn) > 0 := by split <;> omega
      have e2 : (if -dn < -r then -r else -dn) = -dn := by split <;> omega
      simp only [Bool.false_eq_true, Bool.not_false, Bool.true_eq_false, if_false, if_true, false_and, true_and]
      rw [if_neg e1, if_pos e2]
      congr 1
      split <;> omega
    · simp only [if_true] at hr
      have e1 : ¬ (if r < up then r else up) < 0 := by split <;> omega
      have e2 : (if r < up then r else up) = up := by split <;> omega
      simp only [Bool.false_eq_true, Bool.not_true, if_true, if_false, false_and, true_and]
      rw [if_neg e1, if_pos e2]
      congr 1
      split <;> omega
theorem refFeas_loop (h : Okay b m l up dn st id sp on) (row : List Bool) (hl : row.length ≤ 1000) (d : Nat) : ∀ (i : Nat) (cur : Bool) (r : Int), row.length - i = d → i ≤ row.length → 1 ≤ r → r ≤ 10 + i →
    Evs (fun k => pylonref26_Feasible.l0 k row cur r (i : Int) b m l up dn st id sp on) (feasL up dn (stOf up dn cur r) (row.drop i)) := by
  induction d with
  | zero =>
    intro i cur r hd hi h1 h2
    refine Evs.succ (Evs.all fun k => ?_)
    simp only [pylonref26_Feasible.l0]
    rw [if_neg (by omega), List.drop_eq_nil_of_le (by omega)]
    rfl
  | succ d ih =>
    intro i cur r hd hi h1 h2
    have hlt : i < row.length := by omega
    rw [List.drop_eq_getElem_cons hlt, feasL]
    refine Evs.succ ?_
    simp only [pylonref26_Feasible.l0]
    rw [wrap_id (x := (i : Int) + 1) (by omega) (by omega), wrap_id (x := r + 1) (by omega) (by omega), rdOf_at _ _ _ hlt]
    simp only [if_pos (show (i : Int) < (row.length : Int) by omega), if_pos (show (0 : Int) ≤ (i : Int) by omega)]
    by_cases hx : row[i] = cur
    · simp only [if_pos (show (row[i] == cur) = true by simp [hx])]
      rw [hx, st_same h cur r h1 (by omega), Bool.true_and]
      exact ih (i + 1) cur (r + 1) (by omega) (by omega) (by omega) (by omega)
    · simp only [if_neg (show ¬ (row[i] == cur) = true by simp [hx])]
      have hx2 : row[i] = !cur := by cases hq : row[i] <;> cases cur <;> simp_all
      rw [hx2, st_other h cur r h1]
      have a := ih (i + 1) (!cur) 1 (by omega) (by omega) (by omega) (by omega)
      cases cur
      · simp only [Bool.false_eq_true, if_false]
        by_cases hr : r < dn
        · simp only [if_pos hr, Bool.false_and]
          exact Evs.const rfl
        · simp only [if_neg hr, Bool.true_and]
          exact a
      · simp only [if_true]
        by_cases hr : r < up
        · simp only [if_pos hr, Bool.false_and]
          exact Evs.const rfl
        · simp only [if_neg hr, Bool.true_and]
          exact a
theorem refFeas_f (b m : Int) (l : List S99) (up dn st id sp on : Int) (row : List Bool) (hl : row.length ≤ 1000) : Evs (fun k => pylonref26_Feasible.f k b m l up dn st id sp on row) (okB b m l up dn st id sp on && feasL up dn (ini up dn on) row) := by
  unfold pylonref26_Feasible.f
  refine Evs.bind (refMay_f b m l up dn st id sp on) ?_
  cases hk : okB b m l up dn st id sp on
  · exact Evs.const rfl
  · have h := okB_iff.1 hk
    have ho := h.on1; have hu := h.up1; have hd := h.dn1
    simp only [if_true, Bool.true_and]
    by_cases hp : on > 0
    · simp only [if_pos hp]
      refine Evs.succ ?_
      simp only [pylonref26_Feasible.j0]
      have e : ini up dn on = stOf up dn (decide (on > 0)) on := by
        unfold ini stOf mx mn
        simp only [hp, decide_true, if_true]
        split <;> split <;> omega
      rw [e]
      exact refFeas_loop h row hl _ 0 _ _ rfl (by omega) (by omega) (by omega)
    · simp only [if_neg hp]
      refine Evs.succ ?_
      simp only [pylonref26_Feasible.j0]
      rw [wrap_id (x := -on) (by omega) (by omega)]
      have e : ini up dn on = stOf up dn (decide (on > 0)) (-on) := by
        unfold ini stOf mx mn
        simp only [hp, decide_false, Bool.false_eq_true, if_false]
        split <;> split <;> (try split) <;> omega
      rw [e]
      exact refFeas_loop h row hl _ 0 _ _ rfl (by omega) (by omega) (by omega)
theorem refSched_loop (b m : Int) (l : List S99) (up dn st id sp on : Int) (xs : List (List Bool)) (hx : xs.length ≤ 1000) (hm : ∀ r ∈ xs, r.length ≤ 1000) (hk : okB b m l up dn st id sp on = true) (d : Nat) : ∀ (i : Nat) (acc : List (List Bool)), xs.length - i = d → i ≤ xs.length → acc.length ≤ i →
    Evs (fun k => pylonref26_Schedules.l0 k xs acc (i : Int) b m l up dn st id sp on) (acc ++ (xs.drop i).filter (feasL up dn (ini up dn on)), 0) := by
  induction d with
  | zero =>
    intro i acc hd hi ha
    refine Evs.succ (Evs.all fun k => ?_)
    simp only [pylonref26_Schedules.l0]
    rw [if_neg (by omega), List.drop_eq_nil_of_le (by omega)]
    simp
  | succ d ih =>
    intro i acc hd hi ha
    have hlt : i < xs.length := by omega
    have hmi := hm _ (List.getElem_mem hlt)
    rw [List.drop_eq_getElem_cons hlt, List.filter_cons]
    refine Evs.succ ?_
    simp only [pylonref26_Schedules.l0]
    rw [wrap_id (x := (i : Int) + 1) (by omega) (by omega), rd_L5_at _ _ hlt]
    simp only [if_pos (show (i : Int) < (xs.length : Int) by omega), if_pos (show (0 : Int) ≤ (i : Int) by omega)]
    have hf := refFeas_f b m l up dn st id sp on xs[i] hmi
    rw [hk, Bool.true_and] at hf
    refine Evs.bind hf ?_
    by_cases hp : feasL up dn (ini up dn on) xs[i] = true
    · simp only [if_pos hp, if_pos (show acc.length < 5864062014805 by omega)]
      have a := ih (i + 1) (acc ++ [xs[i]]) (by omega) (by omega) (by simp; omega)
      rwa [List.append_assoc, List.singleton_append] at a
    · simp only [if_neg hp]
      exact ih (i + 1) acc (by omega) (by omega) (by omega)
end
/-- The reference's schedules are the program's. -/
theorem refSched_f (b m : Int) (l : List S99) (up dn st id sp on hours : Int) : Evs (fun k => pylonref26_Schedules.f k b m l up dn st id sp on hours) (schedF b m l up dn st id sp on hours) := by
  unfold pylonref26_Schedules.f schedF
  refine Evs.bind (refCheck_f b m l up dn st id sp on) ?_
  have bad : ∀ e : Int, e ≠ 0 → Evs (fun k => pylonref26_Schedules.j1 k hours e b m l up dn st id sp on) (([] : List (List Bool)), e) := fun e he => Evs.succ (Evs.all fun k => by simp only [pylonref26_Schedules.j1, if_neg he])
  by_cases hc : checkF b m l up dn st id sp on 6 = 0
  · simp only [if_pos hc]
    rw [hc]
    have bad1 : Evs (fun k => pylonref26_Schedules.j0 k hours 0 true b m l up dn st id sp on) (([] : List (List Bool)), 1) := Evs.succ (by simp only [pylonref26_Schedules.j0, if_true]; exact bad 1 (by omega))
    by_cases h0 : hours < 0
    · simp only [if_pos h0]
      rw [if_neg (by simp [inB]; omega)]
      exact bad1
    · simp only [if_neg h0]
      by_cases h8 : hours > 8
      · simp only [h8, decide_true]
        rw [if_neg (by simp [inB]; omega)]
        exact bad1
      · simp only [h8, decide_false]
        rw [if_pos (by simp [inB]; omega)]
        refine Evs.succ ?_
        simp only [pylonref26_Schedules.j0, Bool.false_eq_true, if_false]
        refine Evs.succ ?_
        simp only [pylonref26_Schedules.j1, if_true]
        have ha := all_f hours.toNat (by omega)
        rw [show ((hours.toNat : Nat) : Int) = hours by omega] at ha
        refine Evs.bind ha ?_
        have hl : (allL hours.toNat).length ≤ 256 := by rw [allL_length]; exact pow8 (by omega)
        have hk : okB b m l up dn st id sp on = true := by unfold okB; rw [hc]; rfl
        have a := refSched_loop b m l up dn st id sp on (allL hours.toNat) (by omega) (fun r hr => by rw [allL_mem _ r hr]; omega) hk _ 0 [] rfl (by omega) (by simp)
        have e : schedFrom up dn hours.toNat [] (initF b m l up dn st id sp on) = [] ++ ((allL hours.toNat).drop 0).filter (feasL up dn (ini up dn on)) := by
          rw [initF_ok (okB_iff.1 hk), schedFrom_filter]
          simp
        rw [e]
        exact a
  · simp only [if_neg hc]
    refine Evs.succ ?_
    simp only [pylonref26_Schedules.j0, Bool.false_eq_true, if_false]
    exact bad _ hc
theorem sameAll_loop (a : List (List Bool)) (hl : a.length ≤ 100000) (hm : ∀ r ∈ a, r.length ≤ 1000) (d : Nat) : ∀ (i : Nat), a.length - i = d → i ≤ a.length → Evs (fun k => pylonref26_SameAll.l0 k a a (i : Int)) true := by
  induction d with
  | zero =>
    intro i hd hi
    refine Evs.succ (Evs.all fun k => ?_)
    simp only [pylonref26_SameAll.l0]
    rw [if_neg (by omega)]
  | succ d ih =>
    intro i hd hi
    have hlt : i < a.length := by omega
    have hmi := hm _ (List.getElem_mem hlt)
    refine Evs.succ ?_
    simp only [pylonref26_SameAll.l0]
    rw [wrap_id (x := (i : Int) + 1) (by omega) (by omega), rd_L5_at _ _ hlt]
    simp only [if_pos (show (i : Int) < (a.length : Int) by omega), if_pos (show (0 : Int) ≤ (i : Int) by omega)]
    refine Evs.bind (same_f _ _ (by omega)) ?_
    simp only [decide_true, if_true]
    exact ih (i + 1) (by omega) (by omega)
theorem sameAll_f (a : List (List Bool)) (hl : a.length ≤ 100000) (hm : ∀ r ∈ a, r.length ≤ 1000) : Evs (fun k => pylonref26_SameAll.f k a a) true := by
  unfold pylonref26_SameAll.f
  simp only [if_true]
  exact sameAll_loop a hl hm _ 0 rfl (by omega)
end Go.Proofs.Ytelklgdmhnkenaa.U
/- The plain law UnitSchedulesMatch. -/
namespace Go.Proofs.Ytelklgdmhnkenaa.U
open Go.RowKit Go.Proofs.YtelklgdmhnkenaaW.PrintWords Go.Proofs.YtelklgdmhnkenaaW.PrintLast Go.Proofs.YtelklgdmhnkenaaW.PrintMore
set_option linter.unusedVariables false
set_option linter.unusedSimpArgs false
section
variable {b m : Int} {l : List S99} {up dn st id sp on hours e x7 : Int} {want : List (List Bool)} {r : Bool}
theorem flip_rows (xs : List (List Bool)) (hx : xs.length ≤ 1000) (hm : ∀ t ∈ xs, t.length ≤ 1000) (h0 : Evs (fun k => pylonlaw26_UnitSchedulesMatch.l0 k hours want e (wrap64 (x7 + 1)) b m l up dn st id sp on) r) (d : Nat) : ∀ (i : Nat), xs.length - i = d → i ≤ xs.length →
    Evs (fun k => pylonlaw26_UnitSchedulesMatch.l1 k hours want e x7 xs (i : Int) b m l up dn st id sp on) r := by
  induction d with
  | zero =>
    intro i hd hi
    refine Evs.succ ?_
    simp only [pylonlaw26_UnitSchedulesMatch.l1, if_neg (show ¬ (i : Int) < (xs.length : Int) by omega)]
    exact h0
  | succ d ih =>
    intro i hd hi
    have hlt : i < xs.length := by omega
    have hmi := hm _ (List.getElem_mem hlt)
    have hn := ih (i + 1) (by omega) (by omega)
    refine Evs.succ ?_
    simp only [pylonlaw26_UnitSchedulesMatch.l1, if_pos (show (i : Int) < (xs.length : Int) by omega)]
    have inner : ∀ (d2 j : Nat), xs[i].length - j = d2 → j ≤ xs[i].length → Evs (fun k => pylonlaw26_UnitSchedulesMatch.l2 k hours want e x7 xs (i : Int) (j : Int) b m l up dn st id sp on) r := by
      intro d2
      induction d2 with
      | zero =>
        intro j hd2 hj
        refine Evs.succ ?_
        simp only [pylonlaw26_UnitSchedulesMatch.l2, if_pos (show (0 : Int) ≤ (i : Int) by omega), if_pos (show (i : Int) < (xs.length : Int) by omega)]
        rw [rd_L5_at _ _ hlt, wrap_id (x := (i : Int) + 1) (by omega) (by omega)]
        simp only [if_neg (show ¬ (j : Int) < (xs[i].length : Int) by omega)]
        exact hn
      | succ d2 ih2 =>
        intro j hd2 hj
        refine Evs.succ ?_
        simp only [pylonlaw26_UnitSchedulesMatch.l2, if_pos (show (0 : Int) ≤ (i : Int) by omega), if_pos (show (i : Int) < (xs.length : Int) by omega)]
        rw [rd_L5_at _ _ hlt, wrap_id (x := (j : Int) + 1) (by omega) (by omega)]
        simp only [if_pos (show (j : Int) < (xs[i].length : Int) by omega), if_pos (show (0 : Int) ≤ (j : Int) by omega)]
        exact ih2 (j + 1) (by omega) (by omega)
    exact inner _ 0 rfl (by omega)
theorem sched_small (b m : Int) (l : List S99) (up dn st id sp on hours : Int) : (schedF b m l up dn st id sp on hours).1.length ≤ 256 ∧ ∀ t ∈ (schedF b m l up dn st id sp on hours).1, t.length ≤ 1000 := by
  unfold schedF
  by_cases hc : checkF b m l up dn st id sp on 6 = 0
  · rw [if_pos hc]
    by_cases hb : inB hours 0 8 = true
    · rw [if_pos hb]
      simp [inB] at hb
      rw [schedFrom_filter]
      refine ⟨?_, fun t ht => ?_⟩
      · rw [List.length_map]
        refine Nat.le_trans (List.length_filter_le _ _) ?_
        rw [allL_length]
        exact pow8 (by omega)
      · obtain ⟨a, ha, rfl⟩ := List.mem_map.1 ht
        have := allL_mem _ a (List.mem_filter.1 ha).1
        simp
        omega
    · rw [if_neg hb]
      simp
  · rw [if_neg hc]
    simp
theorem round_ok (h0 : Evs (fun k => pylonlaw26_UnitSchedulesMatch.l0 k hours (schedF b m l up dn st id sp on hours).1 (schedF b m l up dn st id sp on hours).2 (wrap64 (x7 + 1)) b m l up dn st id sp on) true) (hx : x7 < 2) :
    Evs (fun k => pylonlaw26_UnitSchedulesMatch.l0 k hours (schedF b m l up dn st id sp on hours).1 (schedF b m l up dn st id sp on hours).2 x7 b m l up dn st id sp on) true := by
  obtain ⟨s1, s2⟩ := sched_small b m l up dn st id sp on hours
  refine Evs.succ ?_
  simp only [pylonlaw26_UnitSchedulesMatch.l0, if_pos hx, unit_Schedules.f, Option.bind_some, if_true]
  refine Evs.bind (sameAll_f _ (by omega) s2) ?_
  simp only [Bool.not_true]
  refine Evs.succ ?_
  simp only [pylonlaw26_UnitSchedulesMatch.j1, Bool.false_eq_true, if_false]
  exact flip_rows _ (by omega) s2 h0 _ 0 rfl (by omega)
end
theorem UnitSchedulesMatch_law (u : S24) (hours : Int) (hu : wfU u) (hh : -9223372036854775808 ≤ hours ∧ hours ≤ 9223372036854775807) : ∃ k, pylonlaw26_UnitSchedulesMatch.f k u.f0 u.f1 u.f2 u.f3 u.f4 u.f5 u.f6 u.f7 u.f8 hours = some true := by
  refine Evs.some ?_
  unfold pylonlaw26_UnitSchedulesMatch.f pylonlaw26_Long.f
  by_cases hl : (u.f2.length : Int) > 100
  · simp only [if_pos hl, Option.bind_some, if_true]
    exact Evs.const rfl
  · simp only [if_neg hl, Option.bind_some, List.length_nil, show ¬ (((0 : Nat) : Int) > 100) by omega, decide_false, Bool.false_eq_true, if_false]
    refine Evs.bind (refSched_f _ _ _ _ _ _ _ _ _ _) ?_
    refine round_ok (x7 := 0) ?_ (by omega)
    rw [show wrap64 ((0 : Int) + 1) = 1 from wrap_id (by omega) (by omega)]
    refine round_ok (x7 := 1) ?_ (by omega)
    rw [show wrap64 ((1 : Int) + 1) = 2 from wrap_id (by omega) (by omega)]
    refine Evs.succ (Evs.all fun k => ?_)
    simp only [pylonlaw26_UnitSchedulesMatch.l0]
    rfl
end Go.Proofs.Ytelklgdmhnkenaa.U
/- The law pylon/pylonlaw26.UnitSchedulesMatch as the row says it: for every input that can be read the call returns true, and the arguments read afterwards as before. No condition. -/
namespace Go.Proofs.Ytelklgdmhnkenaa.unitSchedulesMatch
open Go.ChangeShapes Go.WideShapes Go.ChangeAt Go.RowKit Go.Proofs.Ytelklgdmhnkenaa.U Go.Proofs.YtelklgdmhnkenaaW.PrintWords
set_option linter.unusedVariables false
theorem own : ownKnob Try.prog.godebug = none := by kernel_rfl
theorem laidOut : laidOutB Try.prog = true := by kernel_rfl
set_option maxHeartbeats 2000000 in
set_option maxRecDepth 100000 in
theorem lifted (os : Os) (started : os.Started) (H : Type) (enc : TypeId × Value → H) :
    ReturnsInHanded {} Try.checked os 3 .any (Rows.unitSchedulesMatchSpec.pre6 enc Try.prog Try.f3 Rows.unitSchedulesMatchRow.domain false) (Rows.unitSchedulesMatchSpec.post enc Try.prog Try.f3 false true false false) := by
  refine returnsInHanded_of_change_sized (C := Try.checked) own started (by kernel_rfl) Try.func3
    (ChangeSpec.witness6 (enc := enc) (C := Try.checked) false ⟨#[], #[.agg #[.int .i64 0, .int .i64 0, .slice none 0 0, .int .i64 0, .int .i64 0, .int .i64 0, .int .i64 0, .int .i64 0, .int .i64 0], .int .i64 0], []⟩ 8 (by kernel_rfl) (by kernel_rfl) (by kernel_rfl) (by kernel_rfl)) ?_
  intro W base args ds gs before hval0 hW hcnd hsz0 _
  have hval : ∀ (j : Nat) t v, Try.f3.params[j]? = some t → args[j]? = some v → Value.okWide Try.prog W .any base t v := hval0
  have hW' := hW
  obtain ⟨p, q, hA0, hV, rfl, hfz, hnd⟩ := hW
  have hA : DataW.TrodAll enc Try.prog W 0 (fun _ => true) true Try.f3.params.toList args.toList ds p := hA0
  rw [Try.params3] at hA hval
  obtain ⟨v0, vs0, d0, ds0, p0, q0, hargs, rfl, rfl, h0, r0⟩ := trodAll_cons hA
  obtain ⟨v1, vs1, d1, ds1, p1, q1, rfl, rfl, rfl, h1, r1⟩ := trodAll_cons r0
  obtain ⟨rfl, rfl, rfl⟩ := trodAll_nil r1
  obtain rfl : args = #[v0, v1] := by cases args; simp_all
  obtain ⟨rfl, rfl⟩ := trodVars_none hV
  have k0 := h0
  have lt0 : ∀ x ∈ p0, x.block < W.heap.size := by obtain ⟨m, hm⟩ := k0; exact DataW.trod_lt m _ _ _ hm
  obtain ⟨u0, A0, c0, e0, hc0, hC0, hq0⟩ := arg_unit (hval 0 24 v0 rfl rfl) h0
  subst e0
  obtain ⟨a1, rfl, rfl, rfl, w1⟩ := open_int (k := .i64) (by kernel_rfl) (hval 1 3 v1 rfl rfl) h1
  clear hA0 hval0 hsz0
  obtain ⟨k, hk⟩ := UnitSchedulesMatch_law u0 a1 hq0 (bounds_i64 w1)
  refine (pylonlaw26_UnitSchedulesMatch.calls k u0.f0 u0.f1 A0 c0 u0.f2 u0.f3 u0.f4 u0.f5 u0.f6 u0.f7 u0.f8 a1 true W hC0 hc0 hk).mono fun e W' ⟨he, bel⟩ => ?_
  subst he
  exact ⟨_, rfl, _, _, _, [], _, [], hW', trodAll_mk1 (shut_bool (by kernel_rfl) _), (trodAll_cons_mk (Below.trod laidOut (by kernel_rfl) (of_decide_eq_true (by kernel_rfl)) k0 bel lt0) (trodAll_cons_mk (shut_int (by kernel_rfl) w1) trodAll_mk0)), rfl, bel.frame _, fun h => by cases h⟩
theorem over : Rows.unitSchedulesMatchRow.holds Try.pinned (OpenSpec.ofChange Rows.unitSchedulesMatchSpec) :=
  OpenClaim.holds_of_wide 3 Try.f3 rfl rfl rfl rfl rfl rfl rfl ⟨rfl, rfl, rfl, rfl, rfl⟩ rfl rfl rfl rfl rfl (by kernel_rfl) Try.func3 (by kernel_rfl)
    (of_decide_eq_true (by kernel_rfl)) (by unfold Func.isWrapper; first | (rw [if_pos (by decide +kernel)]; kernel_rfl) | (rw [if_neg (by decide +kernel)]; exact ⟨rfl, rfl⟩))
    (fun os started H enc _ => lifted os started H enc)
end Go.Proofs.Ytelklgdmhnkenaa.unitSchedulesMatch
namespace Go.Proofs.Ytelklgdmhnkenaa
theorem unitSchedulesMatch_holds : Rows.UnitSchedulesMatchSaid := unitSchedulesMatch.over
#print axioms unitSchedulesMatch_holds
end Go.Proofs.Ytelklgdmhnkenaa
