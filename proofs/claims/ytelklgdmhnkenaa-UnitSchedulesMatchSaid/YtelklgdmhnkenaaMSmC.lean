/- Parts of the proof: Uxf34, Uxf49, Uxf50, Uxf23, Uxf48, GivenE, GivenF, PlainA, GivenB, GivenS, Uxf22, Uxf24 -/
import Derived.Test.YtelklgdmhnkenaaMSmA
import Derived.Test.YtelklgdmhnkenaaMSmB
import Derived.WalkSpells
import Derived.Laws.EntriesVeiled
/- Lean functions with the answers of Go functions, and proofs that the calls come to these answers (lines by a program of this session, wip/patch_print.py, over the kit's print tool). -/
namespace Go.Proofs.Ytelklgdmhnkenaa.U
open Go.RowKit Go.Proofs.YtelklgdmhnkenaaW.PrintWords Go.Proofs.YtelklgdmhnkenaaW.PrintLast Go.Proofs.YtelklgdmhnkenaaW.PrintMore
attribute [local go_sem] max2_int min2_int max_two min_two max_three min_three max_four min_four   -- for this text's walks alone
set_option linter.unusedVariables false
set_option linter.unusedSimpArgs false

/-! ### unit_Check: function 34 -/
mutual
def unit_Check.j0 : Nat → Bool → Int → Int → List (S99) → Int → Int → Int → Int → Int → Int → Option (Int)
  | 0, _, _, _, _, _, _, _, _, _, _ => none
  | k + 1, x18, x111000, x111001, x111002, x111003, x111004, x111005, x111006, x111007, x111008 => if x18 = true then (some 1) else ((step_CheckOffer.f x111002).bind fun t112 => (if t112 = 0 then ((unit_Max.f k x111000 x111001 x111002 x111003 x111004 x111005 x111006 x111007 x111008).bind fun t113 => ((unit_within_int64.f x111001 0 t113).bind fun t114 => (if t114 = true then ((unit_within_int64.f x111007 0 1000000).bind fun t115 => (unit_Check.j1 k t115 x111000 x111001 x111002 x111003 x111004 x111005 x111006 x111007 x111008)) else (unit_Check.j1 k false x111000 x111001 x111002 x111003 x111004 x111005 x111006 x111007 x111008)))) else (some t112)))
def unit_Check.j1 : Nat → Bool → Int → Int → List (S99) → Int → Int → Int → Int → Int → Int → Option (Int)
  | 0, _, _, _, _, _, _, _, _, _, _ => none
  | k + 1, x6, x111000, x111001, x111002, x111003, x111004, x111005, x111006, x111007, x111008 => (unit_within_int.f x111003 1 6).bind fun t116 => (if t116 = true then ((unit_within_int.f x111004 1 6).bind fun t117 => (if t117 = true then ((unit_within_int.f x111008 (-6) 6).bind fun t118 => (if t118 = true then (unit_Check.j2 k x6 (x111008 != 0) x111000 x111001 x111002 x111003 x111004 x111005 x111006 x111007 x111008) else (unit_Check.j2 k x6 false x111000 x111001 x111002 x111003 x111004 x111005 x111006 x111007 x111008))) else (unit_Check.j2 k x6 false x111000 x111001 x111002 x111003 x111004 x111005 x111006 x111007 x111008))) else (unit_Check.j2 k x6 false x111000 x111001 x111002 x111003 x111004 x111005 x111006 x111007 x111008))
def unit_Check.j2 : Nat → Bool → Bool → Int → Int → List (S99) → Int → Int → Int → Int → Int → Int → Option (Int)
  | 0, _, _, _, _, _, _, _, _, _, _, _ => none
  | k + 1, x6, x7, x111000, x111001, x111002, x111003, x111004, x111005, x111006, x111007, x111008 => (unit_within_int64.f x111005 0 1000000000).bind fun t119 => (if t119 = true then ((unit_within_int64.f x111006 0 1000000000).bind fun t120 => (if x6 = true then (if x7 = true then (if t120 = true then (some 0) else (some 1)) else (some 1)) else (some 1))) else (if x6 = true then (if x7 = true then (some 1) else (some 1)) else (some 1)))
end
def unit_Check.f (k : Nat) (a0_0 : Int) (a0_1 : Int) (l0_2 : List (S99)) (a0_3 : Int) (a0_4 : Int) (a0_5 : Int) (a0_6 : Int) (a0_7 : Int) (a0_8 : Int) (a1 : Int) : Option (Int) := (unit_within_int.f a0_0 0 (wrap64 (a1 - 1))).bind fun t111 => (if t111 = true then (unit_Check.j0 k (decide (a1 < 1)) a0_0 a0_1 l0_2 a0_3 a0_4 a0_5 a0_6 a0_7 a0_8) else (unit_Check.j0 k true a0_0 a0_1 l0_2 a0_3 a0_4 a0_5 a0_6 a0_7 a0_8))
def unit_Check.T6 : Bool × List (List Nat × List Nat) := (true, [([], []), ([0], [0]), ([], []), ([2], [2]), ([1, 3, 3], [1, 3]), ([4, 4], [4]), ([5], [5]), ([6, 5], [5, 6]), ([7, 5, 5], [5, 7]), ([5, 8], [5, 8]), ([9, 8, 0, 1, 2, 3, 4, 5, 6, 7, 8, 9], [9])])
def unit_Check.B6 : List Nat := [0, 1, 0, 4, 15, 31, 63, 127, 255, 511, 1023]
theorem unit_Check.tab6 : rtab .any (opsOf Try.f34 6) = unit_Check.T6 := by kernel_rfl
theorem unit_Check.bits6 : waitsOk unit_Check.T6.2 unit_Check.B6 = true := by kernel_rfl
set_option maxHeartbeats 8000000 in
set_option maxRecDepth 100000 in
theorem unit_Check.calls (k : Nat) (a0_0 : Int) (a0_1 : Int) (A0_2 : Option Addr) (c0_2 : Nat) (l0_2 : List (S99)) (a0_3 : Int) (a0_4 : Int) (a0_5 : Int) (a0_6 : Int) (a0_7 : Int) (a0_8 : Int) (a1 : Int) (r : Int) (w : World) (hr0_2 : Kd.C k99 w A0_2 l0_2.length l0_2) (hc0_2 : l0_2.length ≤ c0_2) (h : unit_Check.f k a0_0 a0_1 l0_2 a0_3 a0_4 a0_5 a0_6 a0_7 a0_8 a1 = some r) :
    Calls Try.prog 34 #[.agg #[.int .i64 a0_0, .int .i64 a0_1, .slice A0_2 l0_2.length c0_2, .int .i64 a0_3, .int .i64 a0_4, .int .i64 a0_5, .int .i64 a0_6, .int .i64 a0_7, .int .i64 a0_8], .int .i64 a1] w fun e w' => e = .returned (.int .i64 r) ∧ Below w.heap.size w w' := by
  have hu24 := Try.underlying24
  have HR0_2 := Aside0.mk hr0_2
  have HC0_2 := Aside0.mk hc0_2
  clear hr0_2 hc0_2
  have HB := Aside0.mk (Below.refl w.heap.size w)
  have H : ((unit_within_int.f a0_0 0 (wrap64 (a1 - 1))).bind fun t111 => (if t111 = true then (unit_Check.j0 k (decide (a1 < 1)) a0_0 a0_1 l0_2 a0_3 a0_4 a0_5 a0_6 a0_7 a0_8) else (unit_Check.j0 k true a0_0 a0_1 l0_2 a0_3 a0_4 a0_5 a0_6 a0_7 a0_8))) = some r := h
  clear h
  have HC3 := Aside0.mk H
  clear H
  go_enter Try.func34, Try.ntmps34
  go_upto_region 1 with (first | ((with_reducible refine gate_dst (N := 2) rfl ?_); refine box_event ?hg (N := 2) ?hd (cs := #[.int .i64 a0_0, .int .i64 a0_1, .slice A0_2 l0_2.length c0_2, .int .i64 a0_3, .int .i64 a0_4, .int .i64 a0_5, .int .i64 a0_6, .int .i64 a0_7, .int .i64 a0_8]) (t := 24) ?hr ?_; (case hd => rfl); (case hg => rfl); (case hr => first | (go_simp; done) | (go_simp; rfl)); intro gb110 hg w4 hbox hb; have n0_ := Aside0.mk (below_step (by repeat (first | (with_reducible first | exact HB.out | apply below_alloc | apply pw_below_drewN | apply below_drew1) | exact HB.out)) hb); have n1_ := Aside0.mk (hbox); have n2_ := Aside0.mk ((by rw [hg]; exact (below_size (by repeat (first | (with_reducible first | exact HB.out | apply below_alloc | apply pw_below_drewN | apply below_drew1) | exact HB.out))) : w.heap.size ≤ gb110)); have n3_ := Aside0.mk ((by rw [hg]; exact (below_size (by repeat (first | (with_reducible first | exact HB.out | apply below_alloc | apply pw_below_drewN | apply below_drew1) | exact HB.out))) : w.heap.size ≤ gb110)); clear HB; have HB := n0_; have BK110 := n1_; have GW110 := n2_; have GE110 := n3_; clear n0_ n1_ n2_ n3_; clear hb hbox hg))
  (try simp only [Act.put, List.setIfInBounds_toArray, List.set_cons_zero, List.set_cons_succ])
  go_cut [18] (fun v18 wc => ∃ (kq : Nat) (x18_2 : Bool), v18 = .bool x18_2 ∧ Aside0 (unit_Check.j0 kq x18_2 a0_0 a0_1 l0_2 a0_3 a0_4 a0_5 a0_6 a0_7 a0_8 = some r) ∧ Aside0 (kq ≤ k) ∧ Aside0 (wc.heap[gb110]? = some (.cells #[.int .i64 a0_0, .int .i64 a0_1, (.slice A0_2 l0_2.length c0_2), .int .i64 a0_3, .int .i64 a0_4, .int .i64 a0_5, .int .i64 a0_6, .int .i64 a0_7, .int .i64 a0_8] 24 (0, 0))) ∧ Aside0 (Below w.heap.size w wc))
  case first =>
    have H := HC3.out
    clear HC3
    replace H := Option.bind_eq_some_iff.mp H
    obtain ⟨t111, A50, H⟩ := H
    replace H : (if t111 = true then (unit_Check.j0 k (decide (a1 < 1)) a0_0 a0_1 l0_2 a0_3 a0_4 a0_5 a0_6 a0_7 a0_8) else (unit_Check.j0 k true a0_0 a0_1 l0_2 a0_3 a0_4 a0_5 a0_6 a0_7 a0_8)) = some r := H
    have A5 := Aside0.mk A50
    clear A50
    by_cases c6 : t111 = true
    · subst c6
      have H1 : (unit_Check.j0 k (decide (a1 < 1)) a0_0 a0_1 l0_2 a0_3 a0_4 a0_5 a0_6 a0_7 a0_8) = some r := by rw [if_pos rfl] at H; exact H
      clear H
      have H := H1
      clear H1
      have H' := Aside0.mk H
      clear H
      obtain ⟨hcz7_0, hcz7_1, hcz7_2, hcz7_3, hcz7_4, hcz7_5, hcz7_6, hcz7_7, hcz7_8⟩ := cells9 BK110.out
      obtain ⟨hfz7_0, hfz7_1, hfz7_2, hfz7_3, hfz7_4, hfz7_5, hfz7_6, hfz7_7, hfz7_8⟩ := froz9 BK110.out
      go_wp2_with (first | ((with_reducible refine gate_callee (f := 45) rfl ?_); refine goesL_ (some 13) rfl rfl Try.func45 (by kernel_rfl) rfl #[.int .i64 a0_0, .int .i64 0, .int .i64 (wrap64 (a1 - 1))] rfl (by (try simp only [List.map_toArray, List.map_cons, List.map_nil]); first | done | rfl | (simp only [List.length_drop, List.length_take]; rfl)) ?_; (with_reducible refine (unit_within_int.calls a0_0 0 (wrap64 (a1 - 1)) true _ A5.out).mono ?_); rintro e w' ⟨rfl, ⟨nd, rfl⟩⟩; refine ⟨_, rfl, ?_⟩))
      go_meet
      case rel => exact ⟨_, (decide (a1 < 1)), (by first | rfl | (simp; done) | (simp [*]; done)), H', ⟨by first | omega | exact Nat.le_refl _⟩, ⟨by (with_reducible repeat (first | refine blk_drewN ?_ _ | refine blk_drew ?_ | refine blk_alloc ?_ _)); exact BK110.out⟩, ⟨by repeat (first | (with_reducible first | exact HB.out | apply below_alloc | apply pw_below_drewN | apply below_drew1 | refine below_set ?_ GE110.out) | exact HB.out)⟩⟩
    replace c6 := Bool.eq_false_iff.mpr c6
    subst c6
    have H1 : (unit_Check.j0 k true a0_0 a0_1 l0_2 a0_3 a0_4 a0_5 a0_6 a0_7 a0_8) = some r := by rw [if_neg (show ¬ (false = true) by decide)] at H; exact H
    clear H
    have H := H1
    clear H1
    have H' := Aside0.mk H
    clear H
    obtain ⟨hcz8_0, hcz8_1, hcz8_2, hcz8_3, hcz8_4, hcz8_5, hcz8_6, hcz8_7, hcz8_8⟩ := cells9 BK110.out
    obtain ⟨hfz8_0, hfz8_1, hfz8_2, hfz8_3, hfz8_4, hfz8_5, hfz8_6, hfz8_7, hfz8_8⟩ := froz9 BK110.out
    go_wp2_with (first | ((with_reducible refine gate_callee (f := 45) rfl ?_); refine goesL_ (some 13) rfl rfl Try.func45 (by kernel_rfl) rfl #[.int .i64 a0_0, .int .i64 0, .int .i64 (wrap64 (a1 - 1))] rfl (by (try simp only [List.map_toArray, List.map_cons, List.map_nil]); first | done | rfl | (simp only [List.length_drop, List.length_take]; rfl)) ?_; (with_reducible refine (unit_within_int.calls a0_0 0 (wrap64 (a1 - 1)) false _ A5.out).mono ?_); rintro e w' ⟨rfl, ⟨nd, rfl⟩⟩; refine ⟨_, rfl, ?_⟩))
    go_meet
    case rel => exact ⟨_, (true), (by first | rfl | (simp; done) | (simp [*]; done)), H', ⟨by first | omega | exact Nat.le_refl _⟩, ⟨by (with_reducible repeat (first | refine blk_drewN ?_ _ | refine blk_drew ?_ | refine blk_alloc ?_ _)); exact BK110.out⟩, ⟨by repeat (first | (with_reducible first | exact HB.out | apply below_alloc | apply pw_below_drewN | apply below_drew1 | refine below_set ?_ GE110.out) | exact HB.out)⟩⟩
  clear HC3
  try clear p2; try clear c3; try clear c4; try clear c6; try clear p6; try clear hcz7_0; try clear hcz7_1; try clear hcz7_2; try clear hcz7_3; try clear hcz7_4; try clear hcz7_5; try clear hcz7_6; try clear hcz7_7; try clear hcz7_8; try clear hcz8_0; try clear hcz8_1; try clear hcz8_2; try clear hcz8_3; try clear hcz8_4; try clear hcz8_5; try clear hcz8_6; try clear hcz8_7; try clear hcz8_8; try clear hfz7_0; try clear hfz7_1; try clear hfz7_2; try clear hfz7_3; try clear hfz7_4; try clear hfz7_5; try clear hfz7_6; try clear hfz7_7; try clear hfz7_8; try clear hfz8_0; try clear hfz8_1; try clear hfz8_2; try clear hfz8_3; try clear hfz8_4; try clear hfz8_5; try clear hfz8_6; try clear hfz8_7; try clear hfz8_8
  obtain ⟨kq, x18_2, rfl, HA, HJ2, BK110, HB⟩ := hcut
  cases kq with
  | zero => exact absurd HA.out (by simp [unit_Check.j0])
  | succ kj2 =>
    have H := HA.out
    clear HA
    simp only [unit_Check.j0] at H
    by_cases c9 : x18_2 = true
    · subst c9
      have H1 : (some 1) = some r := by rw [if_pos rfl] at H; exact H
      clear H
      have H := H1
      clear H1
      obtain rfl := Option.some.inj H
      go_wp2
      go_ret
      exact ⟨by first | rfl | (simp [errW_none, errW_some] <;> rfl) | (simp [*, errW_none, errW_some] <;> rfl), by repeat (first | (with_reducible first | exact HB.out | apply below_alloc | apply pw_below_drewN | apply below_drew1 | refine below_set ?_ GE110.out) | exact HB.out)⟩
    replace c9 := Bool.eq_false_iff.mpr c9
    subst c9
    have H1 : ((step_CheckOffer.f l0_2).bind fun t112 => (if t112 = 0 then ((unit_Max.f kj2 a0_0 a0_1 l0_2 a0_3 a0_4 a0_5 a0_6 a0_7 a0_8).bind fun t113 => ((unit_within_int64.f a0_1 0 t113).bind fun t114 => (if t114 = true then ((unit_within_int64.f a0_7 0 1000000).bind fun t115 => (unit_Check.j1 kj2 t115 a0_0 a0_1 l0_2 a0_3 a0_4 a0_5 a0_6 a0_7 a0_8)) else (unit_Check.j1 kj2 false a0_0 a0_1 l0_2 a0_3 a0_4 a0_5 a0_6 a0_7 a0_8)))) else (some t112))) = some r := by rw [if_neg (show ¬ (false = true) by decide)] at H; exact H
    clear H
    have H := H1
    clear H1
    replace H := Option.bind_eq_some_iff.mp H
    obtain ⟨t112, A100, H⟩ := H
    replace H : (if t112 = 0 then ((unit_Max.f kj2 a0_0 a0_1 l0_2 a0_3 a0_4 a0_5 a0_6 a0_7 a0_8).bind fun t113 => ((unit_within_int64.f a0_1 0 t113).bind fun t114 => (if t114 = true then ((unit_within_int64.f a0_7 0 1000000).bind fun t115 => (unit_Check.j1 kj2 t115 a0_0 a0_1 l0_2 a0_3 a0_4 a0_5 a0_6 a0_7 a0_8)) else (unit_Check.j1 kj2 false a0_0 a0_1 l0_2 a0_3 a0_4 a0_5 a0_6 a0_7 a0_8)))) else (some t112)) = some r := H
    have A10 := Aside0.mk A100
    clear A100
    by_cases c11 : t112 = 0
    · rw [if_pos c11] at H
      have c11b0 : (t112 == 0) = true := beq_iff_eq.mpr c11
      have c11b1 : (t112 != 0) = false := bne_eq_false_iff_eq.mpr c11
      clear c11
      have HC12 := Aside0.mk H
      clear H
      obtain ⟨hcz13_0, hcz13_1, hcz13_2, hcz13_3, hcz13_4, hcz13_5, hcz13_6, hcz13_7, hcz13_8⟩ := cells9 BK110.out
      obtain ⟨hfz13_0, hfz13_1, hfz13_2, hfz13_3, hfz13_4, hfz13_5, hfz13_6, hfz13_7, hfz13_8⟩ := froz9 BK110.out
      go_upto_region 6 with (first | ((with_reducible refine gate_callee (f := 57) rfl ?_); refine goesL_ (some 21) rfl rfl Try.func57 (by kernel_rfl) rfl #[.slice A0_2 l0_2.length c0_2] rfl (by (try simp only [List.map_toArray, List.map_cons, List.map_nil]); first | done | rfl | (simp only [List.length_drop, List.length_take]; rfl)) ?_; (with_reducible refine (step_CheckOffer.calls _ _ l0_2 t112 _ ?side1 ?side2 A10.out).mono ?_); (case side1 => repeat (first | exact (Kd.C_below HR0_2.out HB.out) | (with_reducible refine Kd.C_alloc ?_ _) | (with_reducible refine Kd.C_drewN ?_ _) | (with_reducible refine Kd.C_drew ?_))); (case side2 => exact HC0_2.out); rintro e w14 ⟨rfl, hb⟩; refine ⟨_, rfl, ?_⟩; have n0_ := Aside0.mk (blk_below (g := gb110) (o := .cells #[.int .i64 a0_0, .int .i64 a0_1, .slice A0_2 l0_2.length c0_2, .int .i64 a0_3, .int .i64 a0_4, .int .i64 a0_5, .int .i64 a0_6, .int .i64 a0_7, .int .i64 a0_8] 24 (0, 0)) (by (with_reducible repeat (first | refine blk_drewN ?_ _ | refine blk_drew ?_ | refine blk_alloc ?_ _)); exact BK110.out) hb); have n1_ := Aside0.mk (below_step (by repeat (first | (with_reducible first | exact HB.out | apply below_alloc | apply pw_below_drewN | apply below_drew1 | refine below_set ?_ GE110.out) | exact HB.out)) hb); clear BK110; clear HB; have BK110 := n0_; have HB := n1_; clear n0_ n1_; (try clear hb); (try clear hb2); (try clear hk); (try clear hi)))
      (try simp only [Act.put, List.setIfInBounds_toArray, List.set_cons_zero, List.set_cons_succ])
      go_cut [6] (fun v6 wc => ∃ (kq : Nat) (x6_11 : Bool), v6 = .bool x6_11 ∧ Aside0 (unit_Check.j1 kq x6_11 a0_0 a0_1 l0_2 a0_3 a0_4 a0_5 a0_6 a0_7 a0_8 = some r) ∧ Aside0 (kq ≤ kj2) ∧ Aside0 (wc.heap[gb110]? = some (.cells #[.int .i64 a0_0, .int .i64 a0_1, (.slice A0_2 l0_2.length c0_2), .int .i64 a0_3, .int .i64 a0_4, .int .i64 a0_5, .int .i64 a0_6, .int .i64 a0_7, .int .i64 a0_8] 24 (0, 0))) ∧ Aside0 (Below w.heap.size w wc))
      case first =>
        have H := HC12.out
        clear HC12
        replace H := Option.bind_eq_some_iff.mp H
        obtain ⟨t113, A150, H⟩ := H
        replace H : ((unit_within_int64.f a0_1 0 t113).bind fun t114 => (if t114 = true then ((unit_within_int64.f a0_7 0 1000000).bind fun t115 => (unit_Check.j1 kj2 t115 a0_0 a0_1 l0_2 a0_3 a0_4 a0_5 a0_6 a0_7 a0_8)) else (unit_Check.j1 kj2 false a0_0 a0_1 l0_2 a0_3 a0_4 a0_5 a0_6 a0_7 a0_8))) = some r := H
        have A15 := Aside0.mk A150
        clear A150
        replace H := Option.bind_eq_some_iff.mp H
        obtain ⟨t114, A160, H⟩ := H
        replace H : (if t114 = true then ((unit_within_int64.f a0_7 0 1000000).bind fun t115 => (unit_Check.j1 kj2 t115 a0_0 a0_1 l0_2 a0_3 a0_4 a0_5 a0_6 a0_7 a0_8)) else (unit_Check.j1 kj2 false a0_0 a0_1 l0_2 a0_3 a0_4 a0_5 a0_6 a0_7 a0_8)) = some r := H
        have A16 := Aside0.mk A160
        clear A160
        by_cases c17 : t114 = true
        · subst c17
          have H1 : ((unit_within_int64.f a0_7 0 1000000).bind fun t115 => (unit_Check.j1 kj2 t115 a0_0 a0_1 l0_2 a0_3 a0_4 a0_5 a0_6 a0_7 a0_8)) = some r := by rw [if_pos rfl] at H; exact H
          clear H
          have H := H1
          clear H1
          replace H := Option.bind_eq_some_iff.mp H
          obtain ⟨t115, A180, H⟩ := H
          replace H : (unit_Check.j1 kj2 t115 a0_0 a0_1 l0_2 a0_3 a0_4 a0_5 a0_6 a0_7 a0_8) = some r := H
          have A18 := Aside0.mk A180
          clear A180
          have H' := Aside0.mk H
          clear H
          try go_wp2
          have n0_ := Aside0.mk (blk_drew BK110.out)
          have n1_ := Aside0.mk (below_drew1 HB.out)
          clear BK110
          clear HB
          have BK110 := n0_
          have HB := n1_
          clear n0_ n1_
          refine start_ (n := 11) (S := fun w' => w'.cell? ⟨gb110, 0, none⟩ = some (.int .i64 a0_0) ∧ w'.cell? ⟨gb110, 1, none⟩ = some (.int .i64 a0_1) ∧ w'.cell? ⟨gb110, 2, none⟩ = some (.slice A0_2 l0_2.length c0_2) ∧ w'.cell? ⟨gb110, 3, none⟩ = some (.int .i64 a0_3) ∧ w'.cell? ⟨gb110, 4, none⟩ = some (.int .i64 a0_4) ∧ w'.cell? ⟨gb110, 5, none⟩ = some (.int .i64 a0_5) ∧ w'.cell? ⟨gb110, 6, none⟩ = some (.int .i64 a0_6) ∧ w'.cell? ⟨gb110, 7, none⟩ = some (.int .i64 a0_7) ∧ w'.cell? ⟨gb110, 8, none⟩ = some (.int .i64 a0_8)) (ds := []) #[false, false, false, false, false, false, false, false, false, false, false] (by kernel_rfl) rfl rfl ⟨(blk_cell BK110.out 0).trans rfl, (blk_cell BK110.out 1).trans rfl, (blk_cell BK110.out 2).trans rfl, (blk_cell BK110.out 3).trans rfl, (blk_cell BK110.out 4).trans rfl, (blk_cell BK110.out 5).trans rfl, (blk_cell BK110.out 6).trans rfl, (blk_cell BK110.out 7).trans rfl, (blk_cell BK110.out 8).trans rfl⟩ (fun hHeld => ?_); refine with_tabW unit_Check.tab6 unit_Check.bits6 (fun HT_ HW_ => ?_)
          generalize w14.drew = w19 at BK110 HB hHeld ⊢
          refine pure_ (i := 0) (N := some 25) (v := ?_) (a' := ?_) #[true, false, false, false, false, false, false, false, false, false, false] rfl rfl (any_of HT_.out (by kernel_rfl)) (fun _ _ _ h => h) (Or.inl ⟨by rfl, ?_⟩) ?_ ?_
          rotate_left
          · intro w'
            go_simp
            with_reducible rfl
          rotate_left
          · simp only [Act.put, List.setIfInBounds_toArray, List.set_cons_zero, List.set_cons_succ, i64_w, i32_w]
            rfl
          refine take_ (i := 1) (N := some 26) (v := ?_) (a' := ?_) #[true, true, false, false, false, false, false, false, false, false, false] rfl rfl (take_ofW HT_.out HW_.out (by kernel_rfl)) (fun _ _ _ h => h) (Or.inl ⟨by rfl, ?_⟩) hHeld ?_ ?_
          rotate_left
          · rintro w' ⟨s0, s1, s2, s3, s4, s5, s6, s7, s8⟩
            go_simp
            with_reducible rfl
          rotate_left
          · simp only [Act.put, List.setIfInBounds_toArray, List.set_cons_zero, List.set_cons_succ, i64_w, i32_w]
            rfl
          refine take_ (i := 2) (N := some 27) (v := ?_) (a' := ?_) #[true, true, true, false, false, false, false, false, false, false, false] rfl rfl (take_ofW HT_.out HW_.out (by kernel_rfl)) (fun _ _ _ h => h) (Or.inl ⟨by rfl, ?_⟩) hHeld ?_ ?_
          rotate_left
          · rintro w' ⟨s0, s1, s2, s3, s4, s5, s6, s7, s8⟩
            go_simp
            with_reducible rfl
          rotate_left
          · simp only [Act.put, List.setIfInBounds_toArray, List.set_cons_zero, List.set_cons_succ, i64_w, i32_w]
            rfl
          refine one_ (i := 3) (N := some 28) #[true, true, true, true, false, false, false, false, false, false, false] rfl rfl (one_of HT_.out (by kernel_rfl)) (by decide) (fun K hK => ?_)
          refine goes_ Try.func37 (by kernel_rfl) rfl #[.agg #[.int .i64 a0_0, .int .i64 a0_1, .slice A0_2 l0_2.length c0_2, .int .i64 a0_3, .int .i64 a0_4, .int .i64 a0_5, .int .i64 a0_6, .int .i64 a0_7, .int .i64 a0_8]] (by rfl) rfl rfl (by (try simp only [List.map_toArray, List.map_cons, List.map_nil]); first | done | rfl | (simp only [List.length_drop, List.length_take]; rfl)) ?_
          with_reducible refine (unit_Max.calls kj2 a0_0 a0_1 _ _ l0_2 a0_3 a0_4 a0_5 a0_6 a0_7 a0_8 t113 _ ?side1 ?side2 A15.out).mono ?_
          (case side1 => repeat (first | exact (Kd.C_below HR0_2.out HB.out) | (with_reducible refine Kd.C_alloc ?_ _) | (with_reducible refine Kd.C_drewN ?_ _) | (with_reducible refine Kd.C_drew ?_)))
          (case side2 => exact HC0_2.out)
          rintro e w20 ⟨rfl, hb⟩
          refine ⟨_, rfl, ?_⟩
          have n0_ := Aside0.mk (blk_below (g := gb110) (o := .cells #[.int .i64 a0_0, .int .i64 a0_1, .slice A0_2 l0_2.length c0_2, .int .i64 a0_3, .int .i64 a0_4, .int .i64 a0_5, .int .i64 a0_6, .int .i64 a0_7, .int .i64 a0_8] 24 (0, 0)) (by (with_reducible repeat (first | refine blk_drewN ?_ _ | refine blk_drew ?_ | refine blk_alloc ?_ _)); exact BK110.out) hb)
          have n1_ := Aside0.mk (below_step (by repeat (first | (with_reducible first | exact HB.out | apply below_alloc | apply pw_below_drewN | apply below_drew1 | refine below_set ?_ GE110.out) | exact HB.out)) hb)
          clear BK110
          clear HB
          have BK110 := n0_
          have HB := n1_
          clear n0_ n1_
          (try clear hb)
          (try clear hb2)
          (try clear hk)
          (try clear hi)
          refine hK.out _ _ ⟨(blk_cell BK110.out 0).trans rfl, (blk_cell BK110.out 1).trans rfl, (blk_cell BK110.out 2).trans rfl, (blk_cell BK110.out 3).trans rfl, (blk_cell BK110.out 4).trans rfl, (blk_cell BK110.out 5).trans rfl, (blk_cell BK110.out 6).trans rfl, (blk_cell BK110.out 7).trans rfl, (blk_cell BK110.out 8).trans rfl⟩ (fun hHeld => ?_)
          clear hK K
          refine norm_ (a' := ?_) ?_ ?_
          rotate_left
          · show Act.put _ (some 28) _ = _
            simp only [Act.put, List.setIfInBounds_toArray, List.set_cons_zero, List.set_cons_succ, i64_w, i32_w]
            rfl
          refine one_ (i := 4) (N := some 29) #[true, true, true, true, true, false, false, false, false, false, false] rfl rfl (one_of HT_.out (by kernel_rfl)) (by decide) (fun K hK => ?_)
          refine goes_ Try.func58 (by kernel_rfl) rfl #[.int .i64 a0_1, .int .i64 0, .int .i64 t113] (by rfl) rfl rfl (by (try simp only [List.map_toArray, List.map_cons, List.map_nil]); first | done | rfl | (simp only [List.length_drop, List.length_take]; rfl)) ?_
          with_reducible refine (unit_within_int64.calls a0_1 0 t113 true _ A16.out).mono ?_
          rintro e w' ⟨rfl, ⟨nd, rfl⟩⟩
          refine ⟨_, rfl, ?_⟩
          refine hK.out _ _ ⟨(blk_cell BK110.out 0).trans rfl, (blk_cell BK110.out 1).trans rfl, (blk_cell BK110.out 2).trans rfl, (blk_cell BK110.out 3).trans rfl, (blk_cell BK110.out 4).trans rfl, (blk_cell BK110.out 5).trans rfl, (blk_cell BK110.out 6).trans rfl, (blk_cell BK110.out 7).trans rfl, (blk_cell BK110.out 8).trans rfl⟩ (fun hHeld => ?_)
          clear hK K
          refine norm_ (a' := ?_) ?_ ?_
          rotate_left
          · show Act.put _ (some 29) _ = _
            simp only [Act.put, List.setIfInBounds_toArray, List.set_cons_zero, List.set_cons_succ, i64_w, i32_w]
            rfl
          refine pure_ (i := 5) (N := some 30) (v := ?_) (a' := ?_) #[true, true, true, true, true, true, false, false, false, false, false] rfl rfl (any_of HT_.out (by kernel_rfl)) (fun _ _ _ h => h) (Or.inl ⟨by rfl, ?_⟩) ?_ ?_
          rotate_left
          · intro w'
            go_simp
            with_reducible rfl
          rotate_left
          · simp only [Act.put, List.setIfInBounds_toArray, List.set_cons_zero, List.set_cons_succ, i64_w, i32_w]
            rfl
          refine pure_ (i := 6) (N := some 31) (v := ?_) (a' := ?_) #[true, true, true, true, true, true, true, false, false, false, false] rfl rfl (any_of HT_.out (by kernel_rfl)) (fun _ _ _ h => h) (Or.inl ⟨by rfl, ?_⟩) ?_ ?_
          rotate_left
          · intro w'
            go_simp
            with_reducible rfl
          rotate_left
          · simp only [Act.put, List.setIfInBounds_toArray, List.set_cons_zero, List.set_cons_succ, i64_w, i32_w]
            rfl
          refine take_ (i := 7) (N := some 32) (v := ?_) (a' := ?_) #[true, true, true, true, true, true, true, true, false, false, false] rfl rfl (take_ofW HT_.out HW_.out (by kernel_rfl)) (fun _ _ _ h => h) (Or.inl ⟨by rfl, ?_⟩) hHeld ?_ ?_
          rotate_left
          · rintro w' ⟨s0, s1, s2, s3, s4, s5, s6, s7, s8⟩
            go_simp
            with_reducible rfl
          rotate_left
          · simp only [Act.put, List.setIfInBounds_toArray, List.set_cons_zero, List.set_cons_succ, i64_w, i32_w]
            rfl
          refine one_ (i := 8) (N := some 33) #[true, true, true, true, true, true, true, true, true, false, false] rfl rfl (one_of HT_.out (by kernel_rfl)) (by decide) (fun K hK => ?_)
          refine goes_ Try.func58 (by kernel_rfl) rfl #[.int .i64 a0_7, .int .i64 0, .int .i64 1000000] (by rfl) rfl rfl (by (try simp only [List.map_toArray, List.map_cons, List.map_nil]); first | done | rfl | (simp only [List.length_drop, List.length_take]; rfl)) ?_
          with_reducible refine (unit_within_int64.calls a0_7 0 1000000 t115 _ A18.out).mono ?_
          rintro e w' ⟨rfl, ⟨nd, rfl⟩⟩
          refine ⟨_, rfl, ?_⟩
          refine hK.out _ _ ⟨(blk_cell BK110.out 0).trans rfl, (blk_cell BK110.out 1).trans rfl, (blk_cell BK110.out 2).trans rfl, (blk_cell BK110.out 3).trans rfl, (blk_cell BK110.out 4).trans rfl, (blk_cell BK110.out 5).trans rfl, (blk_cell BK110.out 6).trans rfl, (blk_cell BK110.out 7).trans rfl, (blk_cell BK110.out 8).trans rfl⟩ (fun hHeld => ?_)
          clear hK K
          refine norm_ (a' := ?_) ?_ ?_
          rotate_left
          · show Act.put _ (some 33) _ = _
            simp only [Act.put, List.setIfInBounds_toArray, List.set_cons_zero, List.set_cons_succ, i64_w, i32_w]
            rfl
          refine pure_ (i := 9) (N := some 34) (v := ?_) (a' := ?_) #[true, true, true, true, true, true, true, true, true, true, false] rfl rfl (any_of HT_.out (by kernel_rfl)) (fun _ _ _ h => h) (Or.inl ⟨by rfl, ?_⟩) ?_ ?_
          rotate_left
          · intro w'
            go_simp
            with_reducible rfl
          rotate_left
          · simp only [Act.put, List.setIfInBounds_toArray, List.set_cons_zero, List.set_cons_succ, i64_w, i32_w]
            rfl
          refine pure_ (i := 10) (N := some 6) (v := ?_) (a' := ?_) #[true, true, true, true, true, true, true, true, true, true, true] rfl rfl (any_of HT_.out (by kernel_rfl)) (fun _ _ _ h => h) (Or.inl ⟨by rfl, ?_⟩) ?_ ?_
          rotate_left
          · intro w'
            go_simp
            with_reducible rfl
          rotate_left
          · simp only [Act.put, List.setIfInBounds_toArray, List.set_cons_zero, List.set_cons_succ, i64_w, i32_w]
            rfl
          refine done_ (done_of HT_.out (by kernel_rfl)) ?_
          try go_wp2
          go_meet
          case rel => exact ⟨_, (t115), (by first | rfl | (simp; done) | (simp [*]; done)), H', ⟨by have := HJ2.out; first | omega | exact Nat.le_refl _⟩, ⟨by (with_reducible repeat (first | refine blk_drewN ?_ _ | refine blk_drew ?_ | refine blk_alloc ?_ _)); exact BK110.out⟩, ⟨by repeat (first | (with_reducible first | exact HB.out | apply below_alloc | apply pw_below_drewN | apply below_drew1 | refine below_set ?_ GE110.out) | exact HB.out)⟩⟩
        replace c17 := Bool.eq_false_iff.mpr c17
        subst c17
        have H1 : (unit_Check.j1 kj2 false a0_0 a0_1 l0_2 a0_3 a0_4 a0_5 a0_6 a0_7 a0_8) = some r := by rw [if_neg (show ¬ (false = true) by decide)] at H; exact H
        clear H
        have H := H1
        clear H1
        have H' := Aside0.mk H
        clear H
        try go_wp2
        have n0_ := Aside0.mk (blk_drew BK110.out)
        have n1_ := Aside0.mk (below_drew1 HB.out)
        clear BK110
        clear HB
        have BK110 := n0_
        have HB := n1_
        clear n0_ n1_
        refine start_ (n := 11) (S := fun w' => w'.cell? ⟨gb110, 0, none⟩ = some (.int .i64 a0_0) ∧ w'.cell? ⟨gb110, 1, none⟩ = some (.int .i64 a0_1) ∧ w'.cell? ⟨gb110, 2, none⟩ = some (.slice A0_2 l0_2.length c0_2) ∧ w'.cell? ⟨gb110, 3, none⟩ = some (.int .i64 a0_3) ∧ w'.cell? ⟨gb110, 4, none⟩ = some (.int .i64 a0_4) ∧ w'.cell? ⟨gb110, 5, none⟩ = some (.int .i64 a0_5) ∧ w'.cell? ⟨gb110, 6, none⟩ = some (.int .i64 a0_6) ∧ w'.cell? ⟨gb110, 7, none⟩ = some (.int .i64 a0_7) ∧ w'.cell? ⟨gb110, 8, none⟩ = some (.int .i64 a0_8)) (ds := []) #[false, false, false, false, false, false, false, false, false, false, false] (by kernel_rfl) rfl rfl ⟨(blk_cell BK110.out 0).trans rfl, (blk_cell BK110.out 1).trans rfl, (blk_cell BK110.out 2).trans rfl, (blk_cell BK110.out 3).trans rfl, (blk_cell BK110.out 4).trans rfl, (blk_cell BK110.out 5).trans rfl, (blk_cell BK110.out 6).trans rfl, (blk_cell BK110.out 7).trans rfl, (blk_cell BK110.out 8).trans rfl⟩ (fun hHeld => ?_); refine with_tabW unit_Check.tab6 unit_Check.bits6 (fun HT_ HW_ => ?_)
        generalize w14.drew = w21 at BK110 HB hHeld ⊢
        refine pure_ (i := 0) (N := some 25) (v := ?_) (a' := ?_) #[true, false, false, false, false, false, false, false, false, false, false] rfl rfl (any_of HT_.out (by kernel_rfl)) (fun _ _ _ h => h) (Or.inl ⟨by rfl, ?_⟩) ?_ ?_
        rotate_left
        · intro w'
          go_simp
          with_reducible rfl
        rotate_left
        · simp only [Act.put, List.setIfInBounds_toArray, List.set_cons_zero, List.set_cons_succ, i64_w, i32_w]
          rfl
        refine take_ (i := 1) (N := some 26) (v := ?_) (a' := ?_) #[true, true, false, false, false, false, false, false, false, false, false] rfl rfl (take_ofW HT_.out HW_.out (by kernel_rfl)) (fun _ _ _ h => h) (Or.inl ⟨by rfl, ?_⟩) hHeld ?_ ?_
        rotate_left
        · rintro w' ⟨s0, s1, s2, s3, s4, s5, s6, s7, s8⟩
          go_simp
          with_reducible rfl
        rotate_left
        · simp only [Act.put, List.setIfInBounds_toArray, List.set_cons_zero, List.set_cons_succ, i64_w, i32_w]
          rfl
        refine take_ (i := 2) (N := some 27) (v := ?_) (a' := ?_) #[true, true, true, false, false, false, false, false, false, false, false] rfl rfl (take_ofW HT_.out HW_.out (by kernel_rfl)) (fun _ _ _ h => h) (Or.inl ⟨by rfl, ?_⟩) hHeld ?_ ?_
        rotate_left
        · rintro w' ⟨s0, s1, s2, s3, s4, s5, s6, s7, s8⟩
          go_simp
          with_reducible rfl
        rotate_left
        · simp only [Act.put, List.setIfInBounds_toArray, List.set_cons_zero, List.set_cons_succ, i64_w, i32_w]
          rfl
        refine one_ (i := 3) (N := some 28) #[true, true, true, true, false, false, false, false, false, false, false] rfl rfl (one_of HT_.out (by kernel_rfl)) (by decide) (fun K hK => ?_)
        refine goes_ Try.func37 (by kernel_rfl) rfl #[.agg #[.int .i64 a0_0, .int .i64 a0_1, .slice A0_2 l0_2.length c0_2, .int .i64 a0_3, .int .i64 a0_4, .int .i64 a0_5, .int .i64 a0_6, .int .i64 a0_7, .int .i64 a0_8]] (by rfl) rfl rfl (by (try simp only [List.map_toArray, List.map_cons, List.map_nil]); first | done | rfl | (simp only [List.length_drop, List.length_take]; rfl)) ?_
        with_reducible refine (unit_Max.calls kj2 a0_0 a0_1 _ _ l0_2 a0_3 a0_4 a0_5 a0_6 a0_7 a0_8 t113 _ ?side1 ?side2 A15.out).mono ?_
        (case side1 => repeat (first | exact (Kd.C_below HR0_2.out HB.out) | (with_reducible refine Kd.C_alloc ?_ _) | (with_reducible refine Kd.C_drewN ?_ _) | (with_reducible refine Kd.C_drew ?_)))
        (case side2 => exact HC0_2.out)
        rintro e w22 ⟨rfl, hb⟩
        refine ⟨_, rfl, ?_⟩
        have n0_ := Aside0.mk (blk_below (g := gb110) (o := .cells #[.int .i64 a0_0, .int .i64 a0_1, .slice A0_2 l0_2.length c0_2, .int .i64 a0_3, .int .i64 a0_4, .int .i64 a0_5, .int .i64 a0_6, .int .i64 a0_7, .int .i64 a0_8] 24 (0, 0)) (by (with_reducible repeat (first | refine blk_drewN ?_ _ | refine blk_drew ?_ | refine blk_alloc ?_ _)); exact BK110.out) hb)
        have n1_ := Aside0.mk (below_step (by repeat (first | (with_reducible first | exact HB.out | apply below_alloc | apply pw_below_drewN | apply below_drew1 | refine below_set ?_ GE110.out) | exact HB.out)) hb)
        clear BK110
        clear HB
        have BK110 := n0_
        have HB := n1_
        clear n0_ n1_
        (try clear hb)
        (try clear hb2)
        (try clear hk)
        (try clear hi)
        refine hK.out _ _ ⟨(blk_cell BK110.out 0).trans rfl, (blk_cell BK110.out 1).trans rfl, (blk_cell BK110.out 2).trans rfl, (blk_cell BK110.out 3).trans rfl, (blk_cell BK110.out 4).trans rfl, (blk_cell BK110.out 5).trans rfl, (blk_cell BK110.out 6).trans rfl, (blk_cell BK110.out 7).trans rfl, (blk_cell BK110.out 8).trans rfl⟩ (fun hHeld => ?_)
        clear hK K
        refine norm_ (a' := ?_) ?_ ?_
        rotate_left
        · show Act.put _ (some 28) _ = _
          simp only [Act.put, List.setIfInBounds_toArray, List.set_cons_zero, List.set_cons_succ, i64_w, i32_w]
          rfl
        refine one_ (i := 4) (N := some 29) #[true, true, true, true, true, false, false, false, false, false, false] rfl rfl (one_of HT_.out (by kernel_rfl)) (by decide) (fun K hK => ?_)
        refine goes_ Try.func58 (by kernel_rfl) rfl #[.int .i64 a0_1, .int .i64 0, .int .i64 t113] (by rfl) rfl rfl (by (try simp only [List.map_toArray, List.map_cons, List.map_nil]); first | done | rfl | (simp only [List.length_drop, List.length_take]; rfl)) ?_
        with_reducible refine (unit_within_int64.calls a0_1 0 t113 false _ A16.out).mono ?_
        rintro e w' ⟨rfl, ⟨nd, rfl⟩⟩
        refine ⟨_, rfl, ?_⟩
        refine hK.out _ _ ⟨(blk_cell BK110.out 0).trans rfl, (blk_cell BK110.out 1).trans rfl, (blk_cell BK110.out 2).trans rfl, (blk_cell BK110.out 3).trans rfl, (blk_cell BK110.out 4).trans rfl, (blk_cell BK110.out 5).trans rfl, (blk_cell BK110.out 6).trans rfl, (blk_cell BK110.out 7).trans rfl, (blk_cell BK110.out 8).trans rfl⟩ (fun hHeld => ?_)
        clear hK K
        refine norm_ (a' := ?_) ?_ ?_
        rotate_left
        · show Act.put _ (some 29) _ = _
          simp only [Act.put, List.setIfInBounds_toArray, List.set_cons_zero, List.set_cons_succ, i64_w, i32_w]
          rfl
        refine pure_ (i := 5) (N := some 30) (v := ?_) (a' := ?_) #[true, true, true, true, true, true, false, false, false, false, false] rfl rfl (any_of HT_.out (by kernel_rfl)) (fun _ _ _ h => h) (Or.inl ⟨by rfl, ?_⟩) ?_ ?_
        rotate_left
        · intro w'
          go_simp
          with_reducible rfl
        rotate_left
        · simp only [Act.put, List.setIfInBounds_toArray, List.set_cons_zero, List.set_cons_succ, i64_w, i32_w]
          rfl
        refine pure_ (i := 6) (N := some 31) (v := undef) (a' := ?_) #[true, true, true, true, true, true, true, false, false, false, false] rfl rfl (any_of HT_.out (by kernel_rfl)) (fun _ _ _ h => h) (Or.inr ⟨by rfl, rfl⟩) ?_ ?_
        rotate_left
        · simp only [Act.put, List.setIfInBounds_toArray, List.set_cons_zero, List.set_cons_succ, i64_w, i32_w]
          rfl
        refine pure_ (i := 7) (N := some 32) (v := undef) (a' := ?_) #[true, true, true, true, true, true, true, true, false, false, false] rfl rfl (any_of HT_.out (by kernel_rfl)) (fun _ _ _ h => h) (Or.inr ⟨by rfl, rfl⟩) ?_ ?_
        rotate_left
        · simp only [Act.put, List.setIfInBounds_toArray, List.set_cons_zero, List.set_cons_succ, i64_w, i32_w]
          rfl
        refine pure_ (i := 8) (N := some 33) (v := undef) (a' := ?_) #[true, true, true, true, true, true, true, true, true, false, false] rfl rfl (any_of HT_.out (by kernel_rfl)) (fun _ _ _ h => h) (Or.inr ⟨by rfl, rfl⟩) ?_ ?_
        rotate_left
        · simp only [Act.put, List.setIfInBounds_toArray, List.set_cons_zero, List.set_cons_succ, i64_w, i32_w]
          rfl
        refine pure_ (i := 9) (N := some 34) (v := ?_) (a' := ?_) #[true, true, true, true, true, true, true, true, true, true, false] rfl rfl (any_of HT_.out (by kernel_rfl)) (fun _ _ _ h => h) (Or.inl ⟨by rfl, ?_⟩) ?_ ?_
        rotate_left
        · intro w'
          go_simp
          with_reducible rfl
        rotate_left
        · simp only [Act.put, List.setIfInBounds_toArray, List.set_cons_zero, List.set_cons_succ, i64_w, i32_w]
          rfl
        refine pure_ (i := 10) (N := some 6) (v := ?_) (a' := ?_) #[true, true, true, true, true, true, true, true, true, true, true] rfl rfl (any_of HT_.out (by kernel_rfl)) (fun _ _ _ h => h) (Or.inl ⟨by rfl, ?_⟩) ?_ ?_
        rotate_left
        · intro w'
          go_simp
          with_reducible rfl
        rotate_left
        · simp only [Act.put, List.setIfInBounds_toArray, List.set_cons_zero, List.set_cons_succ, i64_w, i32_w]
          rfl
        refine done_ (done_of HT_.out (by kernel_rfl)) ?_
        try go_wp2
        go_meet
        case rel => exact ⟨_, (false), (by first | rfl | (simp; done) | (simp [*]; done)), H', ⟨by have := HJ2.out; first | omega | exact Nat.le_refl _⟩, ⟨by (with_reducible repeat (first | refine blk_drewN ?_ _ | refine blk_drew ?_ | refine blk_alloc ?_ _)); exact BK110.out⟩, ⟨by repeat (first | (with_reducible first | exact HB.out | apply below_alloc | apply pw_below_drewN | apply below_drew1 | refine below_set ?_ GE110.out) | exact HB.out)⟩⟩
      clear HC12
      try clear c1; try clear p2; try clear c3; try clear c4; try clear c5; try clear c6; try clear p6; try clear c9; try clear c11; try clear c11b0; try clear c11b1; try clear c17; try clear hcz13_0; try clear hcz13_1; try clear hcz13_2; try clear hcz13_3; try clear hcz13_4; try clear hcz13_5; try clear hcz13_6; try clear hcz13_7; try clear hcz13_8; try clear hcz7_0; try clear hcz7_1; try clear hcz7_2; try clear hcz7_3; try clear hcz7_4; try clear hcz7_5; try clear hcz7_6; try clear hcz7_7; try clear hcz7_8; try clear hcz8_0; try clear hcz8_1; try clear hcz8_2; try clear hcz8_3; try clear hcz8_4; try clear hcz8_5; try clear hcz8_6; try clear hcz8_7; try clear hcz8_8; try clear hfz13_0; try clear hfz13_1; try clear hfz13_2; try clear hfz13_3; try clear hfz13_4; try clear hfz13_5; try clear hfz13_6; try clear hfz13_7; try clear hfz13_8; try clear hfz7_0; try clear hfz7_1; try clear hfz7_2; try clear hfz7_3; try clear hfz7_4; try clear hfz7_5; try clear hfz7_6; try clear hfz7_7; try clear hfz7_8; try clear hfz8_0; try clear hfz8_1; try clear hfz8_2; try clear hfz8_3; try clear hfz8_4; try clear hfz8_5; try clear hfz8_6; try clear hfz8_7; try clear hfz8_8; try clear p2; try clear p6
      obtain ⟨kq, x6_11, rfl, HA, HJ11, BK110, HB⟩ := hcut
      cases kq with
      | zero => exact absurd HA.out (by simp [unit_Check.j1])
      | succ kj11 =>
        have H := HA.out
        clear HA
        simp only [unit_Check.j1] at H
        have HC23 := Aside0.mk H
        clear H
        go_upto_region 7 with (fail)
        go_cut [7] (fun v7 wc => ∃ (kq : Nat) (x7_22 : Bool), v7 = .bool x7_22 ∧ Aside0 (unit_Check.j2 kq x6_11 x7_22 a0_0 a0_1 l0_2 a0_3 a0_4 a0_5 a0_6 a0_7 a0_8 = some r) ∧ Aside0 (kq ≤ kj11) ∧ Aside0 (wc.heap[gb110]? = some (.cells #[.int .i64 a0_0, .int .i64 a0_1, (.slice A0_2 l0_2.length c0_2), .int .i64 a0_3, .int .i64 a0_4, .int .i64 a0_5, .int .i64 a0_6, .int .i64 a0_7, .int .i64 a0_8] 24 (0, 0))) ∧ Aside0 (Below w.heap.size w wc))
        case first =>
          have H := HC23.out
          clear HC23
          replace H := Option.bind_eq_some_iff.mp H
          obtain ⟨t116, A240, H⟩ := H
          replace H : (if t116 = true then ((unit_within_int.f a0_4 1 6).bind fun t117 => (if t117 = true then ((unit_within_int.f a0_8 (-6) 6).bind fun t118 => (if t118 = true then (unit_Check.j2 kj11 x6_11 (a0_8 != 0) a0_0 a0_1 l0_2 a0_3 a0_4 a0_5 a0_6 a0_7 a0_8) else (unit_Check.j2 kj11 x6_11 false a0_0 a0_1 l0_2 a0_3 a0_4 a0_5 a0_6 a0_7 a0_8))) else (unit_Check.j2 kj11 x6_11 false a0_0 a0_1 l0_2 a0_3 a0_4 a0_5 a0_6 a0_7 a0_8))) else (unit_Check.j2 kj11 x6_11 false a0_0 a0_1 l0_2 a0_3 a0_4 a0_5 a0_6 a0_7 a0_8)) = some r := H
          have A24 := Aside0.mk A240
          clear A240
          by_cases c25 : t116 = true
          · subst c25
            have H1 : ((unit_within_int.f a0_4 1 6).bind fun t117 => (if t117 = true then ((unit_within_int.f a0_8 (-6) 6).bind fun t118 => (if t118 = true then (unit_Check.j2 kj11 x6_11 (a0_8 != 0) a0_0 a0_1 l0_2 a0_3 a0_4 a0_5 a0_6 a0_7 a0_8) else (unit_Check.j2 kj11 x6_11 false a0_0 a0_1 l0_2 a0_3 a0_4 a0_5 a0_6 a0_7 a0_8))) else (unit_Check.j2 kj11 x6_11 false a0_0 a0_1 l0_2 a0_3 a0_4 a0_5 a0_6 a0_7 a0_8))) = some r := by rw [if_pos rfl] at H; exact H
            clear H
            have H := H1
            clear H1
            replace H := Option.bind_eq_some_iff.mp H
            obtain ⟨t117, A260, H⟩ := H
            replace H : (if t117 = true then ((unit_within_int.f a0_8 (-6) 6).bind fun t118 => (if t118 = true then (unit_Check.j2 kj11 x6_11 (a0_8 != 0) a0_0 a0_1 l0_2 a0_3 a0_4 a0_5 a0_6 a0_7 a0_8) else (unit_Check.j2 kj11 x6_11 false a0_0 a0_1 l0_2 a0_3 a0_4 a0_5 a0_6 a0_7 a0_8))) else (unit_Check.j2 kj11 x6_11 false a0_0 a0_1 l0_2 a0_3 a0_4 a0_5 a0_6 a0_7 a0_8)) = some r := H
            have A26 := Aside0.mk A260
            clear A260
            by_cases c27 : t117 = true
            · subst c27
              have H1 : ((unit_within_int.f a0_8 (-6) 6).bind fun t118 => (if t118 = true then (unit_Check.j2 kj11 x6_11 (a0_8 != 0) a0_0 a0_1 l0_2 a0_3 a0_4 a0_5 a0_6 a0_7 a0_8) else (unit_Check.j2 kj11 x6_11 false a0_0 a0_1 l0_2 a0_3 a0_4 a0_5 a0_6 a0_7 a0_8))) = some r := by rw [if_pos rfl] at H; exact H
              clear H
              have H := H1
              clear H1
              replace H := Option.bind_eq_some_iff.mp H
              obtain ⟨t118, A280, H⟩ := H
              replace H : (if t118 = true then (unit_Check.j2 kj11 x6_11 (a0_8 != 0) a0_0 a0_1 l0_2 a0_3 a0_4 a0_5 a0_6 a0_7 a0_8) else (unit_Check.j2 kj11 x6_11 false a0_0 a0_1 l0_2 a0_3 a0_4 a0_5 a0_6 a0_7 a0_8)) = some r := H
              have A28 := Aside0.mk A280
              clear A280
              by_cases c29 : t118 = true
              · subst c29
                have H1 : (unit_Check.j2 kj11 x6_11 (a0_8 != 0) a0_0 a0_1 l0_2 a0_3 a0_4 a0_5 a0_6 a0_7 a0_8) = some r := by rw [if_pos rfl] at H; exact H
                clear H
                have H := H1
                clear H1
                have H' := Aside0.mk H
                clear H
                obtain ⟨hcz30_0, hcz30_1, hcz30_2, hcz30_3, hcz30_4, hcz30_5, hcz30_6, hcz30_7, hcz30_8⟩ := cells9 BK110.out
                obtain ⟨hfz30_0, hfz30_1, hfz30_2, hfz30_3, hfz30_4, hfz30_5, hfz30_6, hfz30_7, hfz30_8⟩ := froz9 BK110.out
                go_wp2_with (first | ((with_reducible refine gate_callee (f := 45) rfl ?_); refine goesL_ (some 37) rfl rfl Try.func45 (by kernel_rfl) rfl #[.int .i64 a0_3, .int .i64 1, .int .i64 6] rfl (by (try simp only [List.map_toArray, List.map_cons, List.map_nil]); first | done | rfl | (simp only [List.length_drop, List.length_take]; rfl)) ?_; (with_reducible refine (unit_within_int.calls a0_3 1 6 true _ A24.out).mono ?_); rintro e w' ⟨rfl, ⟨nd, rfl⟩⟩; refine ⟨_, rfl, ?_⟩) | (go_at_call 45; (with_reducible refine (unit_within_int.calls a0_4 1 6 true _ A26.out).mono ?_); rintro e w' ⟨rfl, ⟨nd, rfl⟩⟩) | (go_at_call 45; (with_reducible refine (unit_within_int.calls a0_8 (-6) 6 true _ A28.out).mono ?_); rintro e w' ⟨rfl, ⟨nd, rfl⟩⟩))
                go_meet
                case rel => exact ⟨_, ((a0_8 != 0)), (by first | rfl | (simp; done) | (simp [*]; done)), H', ⟨by have := HJ2.out; have := HJ11.out; first | omega | exact Nat.le_refl _⟩, ⟨by (with_reducible repeat (first | refine blk_drewN ?_ _ | refine blk_drew ?_ | refine blk_alloc ?_ _)); exact BK110.out⟩, ⟨by repeat (first | (with_reducible first | exact HB.out | apply below_alloc | apply pw_below_drewN | apply below_drew1 | refine below_set ?_ GE110.out) | exact HB.out)⟩⟩
              replace c29 := Bool.eq_false_iff.mpr c29
              subst c29
              have H1 : (unit_Check.j2 kj11 x6_11 false a0_0 a0_1 l0_2 a0_3 a0_4 a0_5 a0_6 a0_7 a0_8) = some r := by rw [if_neg (show ¬ (false = true) by decide)] at H; exact H
              clear H
              have H := H1
              clear H1
              have H' := Aside0.mk H
              clear H
              obtain ⟨hcz31_0, hcz31_1, hcz31_2, hcz31_3, hcz31_4, hcz31_5, hcz31_6, hcz31_7, hcz31_8⟩ := cells9 BK110.out
              obtain ⟨hfz31_0, hfz31_1, hfz31_2, hfz31_3, hfz31_4, hfz31_5, hfz31_6, hfz31_7, hfz31_8⟩ := froz9 BK110.out
              go_wp2_with (first | ((with_reducible refine gate_callee (f := 45) rfl ?_); refine goesL_ (some 37) rfl rfl Try.func45 (by kernel_rfl) rfl #[.int .i64 a0_3, .int .i64 1, .int .i64 6] rfl (by (try simp only [List.map_toArray, List.map_cons, List.map_nil]); first | done | rfl | (simp only [List.length_drop, List.length_take]; rfl)) ?_; (with_reducible refine (unit_within_int.calls a0_3 1 6 true _ A24.out).mono ?_); rintro e w' ⟨rfl, ⟨nd, rfl⟩⟩; refine ⟨_, rfl, ?_⟩) | (go_at_call 45; (with_reducible refine (unit_within_int.calls a0_4 1 6 true _ A26.out).mono ?_); rintro e w' ⟨rfl, ⟨nd, rfl⟩⟩) | (go_at_call 45; (with_reducible refine (unit_within_int.calls a0_8 (-6) 6 false _ A28.out).mono ?_); rintro e w' ⟨rfl, ⟨nd, rfl⟩⟩))
              go_meet
              case rel => exact ⟨_, (false), (by first | rfl | (simp; done) | (simp [*]; done)), H', ⟨by have := HJ2.out; have := HJ11.out; first | omega | exact Nat.le_refl _⟩, ⟨by (with_reducible repeat (first | refine blk_drewN ?_ _ | refine blk_drew ?_ | refine blk_alloc ?_ _)); exact BK110.out⟩, ⟨by repeat (first | (with_reducible first | exact HB.out | apply below_alloc | apply pw_below_drewN | apply below_drew1 | refine below_set ?_ GE110.out) | exact HB.out)⟩⟩
            replace c27 := Bool.eq_false_iff.mpr c27
            subst c27
            have H1 : (unit_Check.j2 kj11 x6_11 false a0_0 a0_1 l0_2 a0_3 a0_4 a0_5 a0_6 a0_7 a0_8) = some r := by rw [if_neg (show ¬ (false = true) by decide)] at H; exact H
            clear H
            have H := H1
            clear H1
            have H' := Aside0.mk H
            clear H
            obtain ⟨hcz32_0, hcz32_1, hcz32_2, hcz32_3, hcz32_4, hcz32_5, hcz32_6, hcz32_7, hcz32_8⟩ := cells9 BK110.out
            obtain ⟨hfz32_0, hfz32_1, hfz32_2, hfz32_3, hfz32_4, hfz32_5, hfz32_6, hfz32_7, hfz32_8⟩ := froz9 BK110.out
            go_wp2_with (first | ((with_reducible refine gate_callee (f := 45) rfl ?_); refine goesL_ (some 37) rfl rfl Try.func45 (by kernel_rfl) rfl #[.int .i64 a0_3, .int .i64 1, .int .i64 6] rfl (by (try simp only [List.map_toArray, List.map_cons, List.map_nil]); first | done | rfl | (simp only [List.length_drop, List.length_take]; rfl)) ?_; (with_reducible refine (unit_within_int.calls a0_3 1 6 true _ A24.out).mono ?_); rintro e w' ⟨rfl, ⟨nd, rfl⟩⟩; refine ⟨_, rfl, ?_⟩) | (go_at_call 45; (with_reducible refine (unit_within_int.calls a0_4 1 6 false _ A26.out).mono ?_); rintro e w' ⟨rfl, ⟨nd, rfl⟩⟩))
            go_meet
            case rel => exact ⟨_, (false), (by first | rfl | (simp; done) | (simp [*]; done)), H', ⟨by have := HJ2.out; have := HJ11.out; first | omega | exact Nat.le_refl _⟩, ⟨by (with_reducible repeat (first | refine blk_drewN ?_ _ | refine blk_drew ?_ | refine blk_alloc ?_ _)); exact BK110.out⟩, ⟨by repeat (first | (with_reducible first | exact HB.out | apply below_alloc | apply pw_below_drewN | apply below_drew1 | refine below_set ?_ GE110.out) | exact HB.out)⟩⟩
          replace c25 := Bool.eq_false_iff.mpr c25
          subst c25
          have H1 : (unit_Check.j2 kj11 x6_11 false a0_0 a0_1 l0_2 a0_3 a0_4 a0_5 a0_6 a0_7 a0_8) = some r := by rw [if_neg (show ¬ (false = true) by decide)] at H; exact H
          clear H
          have H := H1
          clear H1
          have H' := Aside0.mk H
          clear H
          obtain ⟨hcz33_0, hcz33_1, hcz33_2, hcz33_3, hcz33_4, hcz33_5, hcz33_6, hcz33_7, hcz33_8⟩ := cells9 BK110.out
          obtain ⟨hfz33_0, hfz33_1, hfz33_2, hfz33_3, hfz33_4, hfz33_5, hfz33_6, hfz33_7, hfz33_8⟩ := froz9 BK110.out
          go_wp2_with (first | ((with_reducible refine gate_callee (f := 45) rfl ?_); refine goesL_ (some 37) rfl rfl Try.func45 (by kernel_rfl) rfl #[.int .i64 a0_3, .int .i64 1, .int .i64 6] rfl (by (try simp only [List.map_toArray, List.map_cons, List.map_nil]); first | done | rfl | (simp only [List.length_drop, List.length_take]; rfl)) ?_; (with_reducible refine (unit_within_int.calls a0_3 1 6 false _ A24.out).mono ?_); rintro e w' ⟨rfl, ⟨nd, rfl⟩⟩; refine ⟨_, rfl, ?_⟩))
          go_meet
          case rel => exact ⟨_, (false), (by first | rfl | (simp; done) | (simp [*]; done)), H', ⟨by have := HJ2.out; have := HJ11.out; first | omega | exact Nat.le_refl _⟩, ⟨by (with_reducible repeat (first | refine blk_drewN ?_ _ | refine blk_drew ?_ | refine blk_alloc ?_ _)); exact BK110.out⟩, ⟨by repeat (first | (with_reducible first | exact HB.out | apply below_alloc | apply pw_below_drewN | apply below_drew1 | refine below_set ?_ GE110.out) | exact HB.out)⟩⟩
        clear HC23
        try clear c1; try clear c2; try clear p2; try clear c3; try clear c4; try clear c5; try clear c6; try clear p6; try clear c9; try clear c11; try clear c11b0; try clear c11b1; try clear c17; try clear c25; try clear c27; try clear c29; try clear hcz13_0; try clear hcz13_1; try clear hcz13_2; try clear hcz13_3; try clear hcz13_4; try clear hcz13_5; try clear hcz13_6; try clear hcz13_7; try clear hcz13_8; try clear hcz30_0; try clear hcz30_1; try clear hcz30_2; try clear hcz30_3; try clear hcz30_4; try clear hcz30_5; try clear hcz30_6; try clear hcz30_7; try clear hcz30_8; try clear hcz31_0; try clear hcz31_1; try clear hcz31_2; try clear hcz31_3; try clear hcz31_4; try clear hcz31_5; try clear hcz31_6; try clear hcz31_7; try clear hcz31_8; try clear hcz32_0; try clear hcz32_1; try clear hcz32_2; try clear hcz32_3; try clear hcz32_4; try clear hcz32_5; try clear hcz32_6; try clear hcz32_7; try clear hcz32_8; try clear hcz33_0; try clear hcz33_1; try clear hcz33_2; try clear hcz33_3; try clear hcz33_4; try clear hcz33_5; try clear hcz33_6; try clear hcz33_7; try clear hcz33_8; try clear hcz7_0; try clear hcz7_1; try clear hcz7_2; try clear hcz7_3; try clear hcz7_4; try clear hcz7_5; try clear hcz7_6; try clear hcz7_7; try clear hcz7_8; try clear hcz8_0; try clear hcz8_1; try clear hcz8_2; try clear hcz8_3; try clear hcz8_4; try clear hcz8_5; try clear hcz8_6; try clear hcz8_7; try clear hcz8_8; try clear hfz13_0; try clear hfz13_1; try clear hfz13_2; try clear hfz13_3; try clear hfz13_4; try clear hfz13_5; try clear hfz13_6; try clear hfz13_7; try clear hfz13_8; try clear hfz30_0; try clear hfz30_1; try clear hfz30_2; try clear hfz30_3; try clear hfz30_4; try clear hfz30_5; try clear hfz30_6; try clear hfz30_7; try clear hfz30_8; try clear hfz31_0; try clear hfz31_1; try clear hfz31_2; try clear hfz31_3; try clear hfz31_4; try clear hfz31_5; try clear hfz31_6; try clear hfz31_7; try clear hfz31_8; try clear hfz32_0; try clear hfz32_1; try clear hfz32_2; try clear hfz32_3; try clear hfz32_4; try clear hfz32_5; try clear hfz32_6; try clear hfz32_7; try clear hfz32_8; try clear hfz33_0; try clear hfz33_1; try clear hfz33_2; try clear hfz33_3; try clear hfz33_4; try clear hfz33_5; try clear hfz33_6; try clear hfz33_7; try clear hfz33_8; try clear hfz7_0; try clear hfz7_1; try clear hfz7_2; try clear hfz7_3; try clear hfz7_4; try clear hfz7_5; try clear hfz7_6; try clear hfz7_7; try clear hfz7_8; try clear hfz8_0; try clear hfz8_1; try clear hfz8_2; try clear hfz8_3; try clear hfz8_4; try clear hfz8_5; try clear hfz8_6; try clear hfz8_7; try clear hfz8_8; try clear p2; try clear p6
        obtain ⟨kq, x7_22, rfl, HA, HJ22, BK110, HB⟩ := hcut
        cases kq with
        | zero => exact absurd HA.out (by simp [unit_Check.j2])
        | succ kj22 =>
          have H := HA.out
          clear HA
          simp only [unit_Check.j2] at H
          replace H := Option.bind_eq_some_iff.mp H
          obtain ⟨t119, A340, H⟩ := H
          replace H : (if t119 = true then ((unit_within_int64.f a0_6 0 1000000000).bind fun t120 => (if x6_11 = true then (if x7_22 = true then (if t120 = true then (some 0) else (some 1)) else (some 1)) else (some 1))) else (if x6_11 = true then (if x7_22 = true then (some 1) else (some 1)) else (some 1))) = some r := H
          have A34 := Aside0.mk A340
          clear A340
          by_cases c35 : t119 = true
          · subst c35
            have H1 : ((unit_within_int64.f a0_6 0 1000000000).bind fun t120 => (if x6_11 = true then (if x7_22 = true then (if t120 = true then (some 0) else (some 1)) else (some 1)) else (some 1))) = some r := by rw [if_pos rfl] at H; exact H
            clear H
            have H := H1
            clear H1
            replace H := Option.bind_eq_some_iff.mp H
            obtain ⟨t120, A360, H⟩ := H
            replace H : (if x6_11 = true then (if x7_22 = true then (if t120 = true then (some 0) else (some 1)) else (some 1)) else (some 1)) = some r := H
            have A36 := Aside0.mk A360
            clear A360
            by_cases c37 : x6_11 = true
            · subst c37
              have H1 : (if x7_22 = true then (if t120 = true then (some 0) else (some 1)) else (some 1)) = some r := by rw [if_pos rfl] at H; exact H
              clear H
              have H := H1
              clear H1
              by_cases c38 : x7_22 = true
              · subst c38
                have H1 : (if t120 = true then (some 0) else (some 1)) = some r := by rw [if_pos rfl] at H; exact H
                clear H
                have H := H1
                clear H1
                by_cases c39 : t120 = true
                · subst c39
                  have H1 : (some 0) = some r := by rw [if_pos rfl] at H; exact H
                  clear H
                  have H := H1
                  clear H1
                  obtain rfl := Option.some.inj H
                  obtain ⟨hcz40_0, hcz40_1, hcz40_2, hcz40_3, hcz40_4, hcz40_5, hcz40_6, hcz40_7, hcz40_8⟩ := cells9 BK110.out
                  obtain ⟨hfz40_0, hfz40_1, hfz40_2, hfz40_3, hfz40_4, hfz40_5, hfz40_6, hfz40_7, hfz40_8⟩ := froz9 BK110.out
                  go_wp2_with (first | ((with_reducible refine gate_callee (f := 58) rfl ?_); refine goesL_ (some 55) rfl rfl Try.func58 (by kernel_rfl) rfl #[.int .i64 a0_5, .int .i64 0, .int .i64 1000000000] rfl (by (try simp only [List.map_toArray, List.map_cons, List.map_nil]); first | done | rfl | (simp only [List.length_drop, List.length_take]; rfl)) ?_; (with_reducible refine (unit_within_int64.calls a0_5 0 1000000000 true _ A34.out).mono ?_); rintro e w' ⟨rfl, ⟨nd, rfl⟩⟩; refine ⟨_, rfl, ?_⟩) | (go_at_call 58; (with_reducible refine (unit_within_int64.calls a0_6 0 1000000000 true _ A36.out).mono ?_); rintro e w' ⟨rfl, ⟨nd, rfl⟩⟩))
                  go_ret
                  exact ⟨by first | rfl | (simp [errW_none, errW_some] <;> rfl) | (simp [*, errW_none, errW_some] <;> rfl), by repeat (first | (with_reducible first | exact HB.out | apply below_alloc | apply pw_below_drewN | apply below_drew1 | refine below_set ?_ GE110.out) | exact HB.out)⟩
                replace c39 := Bool.eq_false_iff.mpr c39
                subst c39
                have H1 : (some 1) = some r := by rw [if_neg (show ¬ (false = true) by decide)] at H; exact H
                clear H
                have H := H1
                clear H1
                obtain rfl := Option.some.inj H
                obtain ⟨hcz41_0, hcz41_1, hcz41_2, hcz41_3, hcz41_4, hcz41_5, hcz41_6, hcz41_7, hcz41_8⟩ := cells9 BK110.out
                obtain ⟨hfz41_0, hfz41_1, hfz41_2, hfz41_3, hfz41_4, hfz41_5, hfz41_6, hfz41_7, hfz41_8⟩ := froz9 BK110.out
                go_wp2_with (first | ((with_reducible refine gate_callee (f := 58) rfl ?_); refine goesL_ (some 55) rfl rfl Try.func58 (by kernel_rfl) rfl #[.int .i64 a0_5, .int .i64 0, .int .i64 1000000000] rfl (by (try simp only [List.map_toArray, List.map_cons, List.map_nil]); first | done | rfl | (simp only [List.length_drop, List.length_take]; rfl)) ?_; (with_reducible refine (unit_within_int64.calls a0_5 0 1000000000 true _ A34.out).mono ?_); rintro e w' ⟨rfl, ⟨nd, rfl⟩⟩; refine ⟨_, rfl, ?_⟩) | (go_at_call 58; (with_reducible refine (unit_within_int64.calls a0_6 0 1000000000 false _ A36.out).mono ?_); rintro e w' ⟨rfl, ⟨nd, rfl⟩⟩))
                go_ret
                exact ⟨by first | rfl | (simp [errW_none, errW_some] <;> rfl) | (simp [*, errW_none, errW_some] <;> rfl), by repeat (first | (with_reducible first | exact HB.out | apply below_alloc | apply pw_below_drewN | apply below_drew1 | refine below_set ?_ GE110.out) | exact HB.out)⟩
              replace c38 := Bool.eq_false_iff.mpr c38
              subst c38
              have H1 : (some 1) = some r := by rw [if_neg (show ¬ (false = true) by decide)] at H; exact H
              clear H
              have H := H1
              clear H1
              obtain rfl := Option.some.inj H
              obtain ⟨hcz42_0, hcz42_1, hcz42_2, hcz42_3, hcz42_4, hcz42_5, hcz42_6, hcz42_7, hcz42_8⟩ := cells9 BK110.out
              obtain ⟨hfz42_0, hfz42_1, hfz42_2, hfz42_3, hfz42_4, hfz42_5, hfz42_6, hfz42_7, hfz42_8⟩ := froz9 BK110.out
              go_wp2_with (first | ((with_reducible refine gate_callee (f := 58) rfl ?_); refine goesL_ (some 55) rfl rfl Try.func58 (by kernel_rfl) rfl #[.int .i64 a0_5, .int .i64 0, .int .i64 1000000000] rfl (by (try simp only [List.map_toArray, List.map_cons, List.map_nil]); first | done | rfl | (simp only [List.length_drop, List.length_take]; rfl)) ?_; (with_reducible refine (unit_within_int64.calls a0_5 0 1000000000 true _ A34.out).mono ?_); rintro e w' ⟨rfl, ⟨nd, rfl⟩⟩; refine ⟨_, rfl, ?_⟩) | (go_at_call 58; (with_reducible refine (unit_within_int64.calls a0_6 0 1000000000 t120 _ A36.out).mono ?_); rintro e w' ⟨rfl, ⟨nd, rfl⟩⟩))
              go_ret
              exact ⟨by first | rfl | (simp [errW_none, errW_some] <;> rfl) | (simp [*, errW_none, errW_some] <;> rfl), by repeat (first | (with_reducible first | exact HB.out | apply below_alloc | apply pw_below_drewN | apply below_drew1 | refine below_set ?_ GE110.out) | exact HB.out)⟩
            replace c37 := Bool.eq_false_iff.mpr c37
            subst c37
            have H1 : (some 1) = some r := by rw [if_neg (show ¬ (false = true) by decide)] at H; exact H
            clear H
            have H := H1
            clear H1
            obtain rfl := Option.some.inj H
            obtain ⟨hcz43_0, hcz43_1, hcz43_2, hcz43_3, hcz43_4, hcz43_5, hcz43_6, hcz43_7, hcz43_8⟩ := cells9 BK110.out
            obtain ⟨hfz43_0, hfz43_1, hfz43_2, hfz43_3, hfz43_4, hfz43_5, hfz43_6, hfz43_7, hfz43_8⟩ := froz9 BK110.out
            go_wp2_with (first | ((with_reducible refine gate_callee (f := 58) rfl ?_); refine goesL_ (some 55) rfl rfl Try.func58 (by kernel_rfl) rfl #[.int .i64 a0_5, .int .i64 0, .int .i64 1000000000] rfl (by (try simp only [List.map_toArray, List.map_cons, List.map_nil]); first | done | rfl | (simp only [List.length_drop, List.length_take]; rfl)) ?_; (with_reducible refine (unit_within_int64.calls a0_5 0 1000000000 true _ A34.out).mono ?_); rintro e w' ⟨rfl, ⟨nd, rfl⟩⟩; refine ⟨_, rfl, ?_⟩) | (go_at_call 58; (with_reducible refine (unit_within_int64.calls a0_6 0 1000000000 t120 _ A36.out).mono ?_); rintro e w' ⟨rfl, ⟨nd, rfl⟩⟩))
            go_ret
            exact ⟨by first | rfl | (simp [errW_none, errW_some] <;> rfl) | (simp [*, errW_none, errW_some] <;> rfl), by repeat (first | (with_reducible first | exact HB.out | apply below_alloc | apply pw_below_drewN | apply below_drew1 | refine below_set ?_ GE110.out) | exact HB.out)⟩
          replace c35 := Bool.eq_false_iff.mpr c35
          subst c35
          have H1 : (if x6_11 = true then (if x7_22 = true then (some 1) else (some 1)) else (some 1)) = some r := by rw [if_neg (show ¬ (false = true) by decide)] at H; exact H
          clear H
          have H := H1
          clear H1
          by_cases c44 : x6_11 = true
          · subst c44
            have H1 : (if x7_22 = true then (some 1) else (some 1)) = some r := by rw [if_pos rfl] at H; exact H
            clear H
            have H := H1
            clear H1
            by_cases c45 : x7_22 = true
            · subst c45
              have H1 : (some 1) = some r := by rw [if_pos rfl] at H; exact H
              clear H
              have H := H1
              clear H1
              obtain rfl := Option.some.inj H
              obtain ⟨hcz46_0, hcz46_1, hcz46_2, hcz46_3, hcz46_4, hcz46_5, hcz46_6, hcz46_7, hcz46_8⟩ := cells9 BK110.out
              obtain ⟨hfz46_0, hfz46_1, hfz46_2, hfz46_3, hfz46_4, hfz46_5, hfz46_6, hfz46_7, hfz46_8⟩ := froz9 BK110.out
              go_wp2_with (first | ((with_reducible refine gate_callee (f := 58) rfl ?_); refine goesL_ (some 55) rfl rfl Try.func58 (by kernel_rfl) rfl #[.int .i64 a0_5, .int .i64 0, .int .i64 1000000000] rfl (by (try simp only [List.map_toArray, List.map_cons, List.map_nil]); first | done | rfl | (simp only [List.length_drop, List.length_take]; rfl)) ?_; (with_reducible refine (unit_within_int64.calls a0_5 0 1000000000 false _ A34.out).mono ?_); rintro e w' ⟨rfl, ⟨nd, rfl⟩⟩; refine ⟨_, rfl, ?_⟩))
              go_ret
              exact ⟨by first | rfl | (simp [errW_none, errW_some] <;> rfl) | (simp [*, errW_none, errW_some] <;> rfl), by repeat (first | (with_reducible first | exact HB.out | apply below_alloc | apply pw_below_drewN | apply below_drew1 | refine below_set ?_ GE110.out) | exact HB.out)⟩
            replace c45 := Bool.eq_false_iff.mpr c45
            subst c45
            have H1 : (some 1) = some r := by rw [if_neg (show ¬ (false = true) by decide)] at H; exact H
            clear H
            have H := H1
            clear H1
            obtain rfl := Option.some.inj H
            obtain ⟨hcz47_0, hcz47_1, hcz47_2, hcz47_3, hcz47_4, hcz47_5, hcz47_6, hcz47_7, hcz47_8⟩ := cells9 BK110.out
            obtain ⟨hfz47_0, hfz47_1, hfz47_2, hfz47_3, hfz47_4, hfz47_5, hfz47_6, hfz47_7, hfz47_8⟩ := froz9 BK110.out
            go_wp2_with (first | ((with_reducible refine gate_callee (f := 58) rfl ?_); refine goesL_ (some 55) rfl rfl Try.func58 (by kernel_rfl) rfl #[.int .i64 a0_5, .int .i64 0, .int .i64 1000000000] rfl (by (try simp only [List.map_toArray, List.map_cons, List.map_nil]); first | done | rfl | (simp only [List.length_drop, List.length_take]; rfl)) ?_; (with_reducible refine (unit_within_int64.calls a0_5 0 1000000000 false _ A34.out).mono ?_); rintro e w' ⟨rfl, ⟨nd, rfl⟩⟩; refine ⟨_, rfl, ?_⟩))
            go_ret
            exact ⟨by first | rfl | (simp [errW_none, errW_some] <;> rfl) | (simp [*, errW_none, errW_some] <;> rfl), by repeat (first | (with_reducible first | exact HB.out | apply below_alloc | apply pw_below_drewN | apply below_drew1 | refine below_set ?_ GE110.out) | exact HB.out)⟩
          replace c44 := Bool.eq_false_iff.mpr c44
          subst c44
          have H1 : (some 1) = some r := by rw [if_neg (show ¬ (false = true) by decide)] at H; exact H
          clear H
          have H := H1
          clear H1
          obtain rfl := Option.some.inj H
          obtain ⟨hcz48_0, hcz48_1, hcz48_2, hcz48_3, hcz48_4, hcz48_5, hcz48_6, hcz48_7, hcz48_8⟩ := cells9 BK110.out
          obtain ⟨hfz48_0, hfz48_1, hfz48_2, hfz48_3, hfz48_4, hfz48_5, hfz48_6, hfz48_7, hfz48_8⟩ := froz9 BK110.out
          go_wp2_with (first | ((with_reducible refine gate_callee (f := 58) rfl ?_); refine goesL_ (some 55) rfl rfl Try.func58 (by kernel_rfl) rfl #[.int .i64 a0_5, .int .i64 0, .int .i64 1000000000] rfl (by (try simp only [List.map_toArray, List.map_cons, List.map_nil]); first | done | rfl | (simp only [List.length_drop, List.length_take]; rfl)) ?_; (with_reducible refine (unit_within_int64.calls a0_5 0 1000000000 false _ A34.out).mono ?_); rintro e w' ⟨rfl, ⟨nd, rfl⟩⟩; refine ⟨_, rfl, ?_⟩))
          go_ret
          exact ⟨by first | rfl | (simp [errW_none, errW_some] <;> rfl) | (simp [*, errW_none, errW_some] <;> rfl), by repeat (first | (with_reducible first | exact HB.out | apply below_alloc | apply pw_below_drewN | apply below_drew1 | refine below_set ?_ GE110.out) | exact HB.out)⟩
    rw [if_neg c11] at H
    have c11b0 : (t112 == 0) = false := beq_eq_false_iff_ne.mpr c11
    have c11b1 : (t112 != 0) = true := bne_iff_ne.mpr c11
    obtain rfl := Option.some.inj H
    obtain ⟨hcz49_0, hcz49_1, hcz49_2, hcz49_3, hcz49_4, hcz49_5, hcz49_6, hcz49_7, hcz49_8⟩ := cells9 BK110.out
    obtain ⟨hfz49_0, hfz49_1, hfz49_2, hfz49_3, hfz49_4, hfz49_5, hfz49_6, hfz49_7, hfz49_8⟩ := froz9 BK110.out
    go_wp2_with (first | ((with_reducible refine gate_callee (f := 57) rfl ?_); refine goesL_ (some 21) rfl rfl Try.func57 (by kernel_rfl) rfl #[.slice A0_2 l0_2.length c0_2] rfl (by (try simp only [List.map_toArray, List.map_cons, List.map_nil]); first | done | rfl | (simp only [List.length_drop, List.length_take]; rfl)) ?_; (with_reducible refine (step_CheckOffer.calls _ _ l0_2 t112 _ ?side1 ?side2 A10.out).mono ?_); (case side1 => repeat (first | exact (Kd.C_below HR0_2.out HB.out) | (with_reducible refine Kd.C_alloc ?_ _) | (with_reducible refine Kd.C_drewN ?_ _) | (with_reducible refine Kd.C_drew ?_))); (case side2 => exact HC0_2.out); rintro e w50 ⟨rfl, hb⟩; refine ⟨_, rfl, ?_⟩; have n0_ := Aside0.mk (blk_below (g := gb110) (o := .cells #[.int .i64 a0_0, .int .i64 a0_1, .slice A0_2 l0_2.length c0_2, .int .i64 a0_3, .int .i64 a0_4, .int .i64 a0_5, .int .i64 a0_6, .int .i64 a0_7, .int .i64 a0_8] 24 (0, 0)) (by (with_reducible repeat (first | refine blk_drewN ?_ _ | refine blk_drew ?_ | refine blk_alloc ?_ _)); exact BK110.out) hb); have n1_ := Aside0.mk (below_step (by repeat (first | (with_reducible first | exact HB.out | apply below_alloc | apply pw_below_drewN | apply below_drew1 | refine below_set ?_ GE110.out) | exact HB.out)) hb); clear BK110; clear HB; have BK110 := n0_; have HB := n1_; clear n0_ n1_; (try clear hb); (try clear hb2); (try clear hk); (try clear hi)))
    go_ret
    exact ⟨by first | rfl | (simp [errW_none, errW_some] <;> rfl) | (simp [*, errW_none, errW_some] <;> rfl), by repeat (first | (with_reducible first | exact HB.out | apply below_alloc | apply pw_below_drewN | apply below_drew1 | refine below_set ?_ GE110.out) | exact HB.out)⟩

end Go.Proofs.Ytelklgdmhnkenaa.U
/- Lean functions with the answers of Go functions, and proofs that the calls come to these answers (lines by a program of this session, wip/patch_print.py, over the kit's print tool). -/
namespace Go.Proofs.Ytelklgdmhnkenaa.U
open Go.RowKit Go.Proofs.YtelklgdmhnkenaaW.PrintWords Go.Proofs.YtelklgdmhnkenaaW.PrintLast Go.Proofs.YtelklgdmhnkenaaW.PrintMore
attribute [local go_sem] max2_int min2_int max_two min_two max_three min_three max_four min_four   -- for this text's walks alone
set_option linter.unusedVariables false
set_option linter.unusedSimpArgs false

/-! ### unit_may: function 49 -/
def unit_may.f (k : Nat) (a0_0 : Int) (a0_1 : Int) (l0_2 : List (S99)) (a0_3 : Int) (a0_4 : Int) (a0_5 : Int) (a0_6 : Int) (a0_7 : Int) (a0_8 : Int) : Option (Bool) := (unit_Check.f k a0_0 a0_1 l0_2 a0_3 a0_4 a0_5 a0_6 a0_7 a0_8 6).bind fun t122 => (some (t122 == 0))
set_option maxHeartbeats 8000000 in
set_option maxRecDepth 100000 in
theorem unit_may.calls (k : Nat) (a0_0 : Int) (a0_1 : Int) (A0_2 : Option Addr) (c0_2 : Nat) (l0_2 : List (S99)) (a0_3 : Int) (a0_4 : Int) (a0_5 : Int) (a0_6 : Int) (a0_7 : Int) (a0_8 : Int) (r : Bool) (w : World) (hr0_2 : Kd.C k99 w A0_2 l0_2.length l0_2) (hc0_2 : l0_2.length ≤ c0_2) (h : unit_may.f k a0_0 a0_1 l0_2 a0_3 a0_4 a0_5 a0_6 a0_7 a0_8 = some r) :
    Calls Try.prog 49 #[.agg #[.int .i64 a0_0, .int .i64 a0_1, .slice A0_2 l0_2.length c0_2, .int .i64 a0_3, .int .i64 a0_4, .int .i64 a0_5, .int .i64 a0_6, .int .i64 a0_7, .int .i64 a0_8]] w fun e w' => e = .returned (.bool r) ∧ Below w.heap.size w w' := by
  have hu24 := Try.underlying24
  have HR0_2 := Aside0.mk hr0_2
  have HC0_2 := Aside0.mk hc0_2
  clear hr0_2 hc0_2
  have HB := Aside0.mk (Below.refl w.heap.size w)
  have H : ((unit_Check.f k a0_0 a0_1 l0_2 a0_3 a0_4 a0_5 a0_6 a0_7 a0_8 6).bind fun t122 => (some (t122 == 0))) = some r := h
  clear h
  replace H := Option.bind_eq_some_iff.mp H
  obtain ⟨t122, A20, H⟩ := H
  replace H : (some (t122 == 0)) = some r := H
  have A2 := Aside0.mk A20
  clear A20
  obtain rfl := Option.some.inj H
  go_enter Try.func49, Try.ntmps49
  go_wp2_with (first | ((with_reducible refine gate_dst (N := 1) rfl ?_); refine box_event ?hg (N := 1) ?hd (cs := #[.int .i64 a0_0, .int .i64 a0_1, .slice A0_2 l0_2.length c0_2, .int .i64 a0_3, .int .i64 a0_4, .int .i64 a0_5, .int .i64 a0_6, .int .i64 a0_7, .int .i64 a0_8]) (t := 24) ?hr ?_; (case hd => rfl); (case hg => rfl); (case hr => first | (go_simp; done) | (go_simp; rfl)); intro gb121 hg w3 hbox hb; have n0_ := Aside0.mk (below_step (by repeat (first | (with_reducible first | exact HB.out | apply below_alloc | apply pw_below_drewN | apply below_drew1) | exact HB.out)) hb); have n1_ := Aside0.mk (hbox); have n2_ := Aside0.mk ((by rw [hg]; exact (below_size (by repeat (first | (with_reducible first | exact HB.out | apply below_alloc | apply pw_below_drewN | apply below_drew1) | exact HB.out))) : w.heap.size ≤ gb121)); have n3_ := Aside0.mk ((by rw [hg]; exact (below_size (by repeat (first | (with_reducible first | exact HB.out | apply below_alloc | apply pw_below_drewN | apply below_drew1) | exact HB.out))) : w.heap.size ≤ gb121)); clear HB; have HB := n0_; have BK121 := n1_; have GW121 := n2_; have GE121 := n3_; clear n0_ n1_ n2_ n3_; clear hb hbox hg; have hcz4_0 : w3.cell? ⟨gb121, 0, none⟩ = some (.int .i64 a0_0) := (blk_cell BK121.out 0).trans rfl; have hcz4_1 : w3.cell? ⟨gb121, 1, none⟩ = some (.int .i64 a0_1) := (blk_cell BK121.out 1).trans rfl; have hcz4_2 : w3.cell? ⟨gb121, 2, none⟩ = some (.slice A0_2 l0_2.length c0_2) := (blk_cell BK121.out 2).trans rfl; have hcz4_3 : w3.cell? ⟨gb121, 3, none⟩ = some (.int .i64 a0_3) := (blk_cell BK121.out 3).trans rfl; have hcz4_4 : w3.cell? ⟨gb121, 4, none⟩ = some (.int .i64 a0_4) := (blk_cell BK121.out 4).trans rfl; have hcz4_5 : w3.cell? ⟨gb121, 5, none⟩ = some (.int .i64 a0_5) := (blk_cell BK121.out 5).trans rfl; have hcz4_6 : w3.cell? ⟨gb121, 6, none⟩ = some (.int .i64 a0_6) := (blk_cell BK121.out 6).trans rfl; have hcz4_7 : w3.cell? ⟨gb121, 7, none⟩ = some (.int .i64 a0_7) := (blk_cell BK121.out 7).trans rfl; have hcz4_8 : w3.cell? ⟨gb121, 8, none⟩ = some (.int .i64 a0_8) := (blk_cell BK121.out 8).trans rfl; have hfz4_0 := blk_frozen BK121.out 0; have hfz4_1 := blk_frozen BK121.out 1; have hfz4_2 := blk_frozen BK121.out 2; have hfz4_3 := blk_frozen BK121.out 3; have hfz4_4 := blk_frozen BK121.out 4; have hfz4_5 := blk_frozen BK121.out 5; have hfz4_6 := blk_frozen BK121.out 6; have hfz4_7 := blk_frozen BK121.out 7; have hfz4_8 := blk_frozen BK121.out 8) | ((with_reducible refine gate_callee (f := 34) rfl ?_); refine goesL_ (some 4) rfl rfl Try.func34 (by kernel_rfl) rfl #[.agg #[.int .i64 a0_0, .int .i64 a0_1, .slice A0_2 l0_2.length c0_2, .int .i64 a0_3, .int .i64 a0_4, .int .i64 a0_5, .int .i64 a0_6, .int .i64 a0_7, .int .i64 a0_8], .int .i64 6] rfl (by (try simp only [List.map_toArray, List.map_cons, List.map_nil]); first | done | rfl | (simp only [List.length_drop, List.length_take]; rfl)) ?_; (with_reducible refine (unit_Check.calls k a0_0 a0_1 _ _ l0_2 a0_3 a0_4 a0_5 a0_6 a0_7 a0_8 6 t122 _ ?side1 ?side2 A2.out).mono ?_); (case side1 => repeat (first | exact (Kd.C_below HR0_2.out HB.out) | (with_reducible refine Kd.C_alloc ?_ _) | (with_reducible refine Kd.C_drewN ?_ _) | (with_reducible refine Kd.C_drew ?_))); (case side2 => exact HC0_2.out); rintro e w5 ⟨rfl, hb⟩; refine ⟨_, rfl, ?_⟩; have n0_ := Aside0.mk (blk_below (g := gb121) (o := .cells #[.int .i64 a0_0, .int .i64 a0_1, .slice A0_2 l0_2.length c0_2, .int .i64 a0_3, .int .i64 a0_4, .int .i64 a0_5, .int .i64 a0_6, .int .i64 a0_7, .int .i64 a0_8] 24 (0, 0)) (by (with_reducible repeat (first | refine blk_drewN ?_ _ | refine blk_drew ?_ | refine blk_alloc ?_ _)); exact BK121.out) hb); have n1_ := Aside0.mk (below_step (by repeat (first | (with_reducible first | exact HB.out | apply below_alloc | apply pw_below_drewN | apply below_drew1 | refine below_set ?_ GE121.out) | exact HB.out)) hb); clear BK121; clear HB; have BK121 := n0_; have HB := n1_; clear n0_ n1_; (try clear hb); (try clear hb2); (try clear hk); (try clear hi)))
  go_ret
  exact ⟨by first | rfl | (simp [errW_none, errW_some] <;> rfl) | (simp [*, errW_none, errW_some] <;> rfl), by repeat (first | (with_reducible first | exact HB.out | apply below_alloc | apply pw_below_drewN | apply below_drew1 | refine below_set ?_ GE121.out) | exact HB.out)⟩

end Go.Proofs.Ytelklgdmhnkenaa.U
/- Lean functions with the answers of Go functions, and proofs that the calls come to these answers (lines by a program of this session, wip/patch_print.py, over the kit's print tool). -/
namespace Go.Proofs.Ytelklgdmhnkenaa.U
open Go.RowKit Go.Proofs.YtelklgdmhnkenaaW.PrintWords Go.Proofs.YtelklgdmhnkenaaW.PrintLast Go.Proofs.YtelklgdmhnkenaaW.PrintMore
attribute [local go_sem] max2_int min2_int max_two min_two max_three min_three max_four min_four   -- for this text's walks alone
set_option linter.unusedVariables false
set_option linter.unusedSimpArgs false

/-! ### unit_held: function 50 -/
def unit_held.f (a0_0 : Int) (a0_1 : Int) (l0_2 : List (S99)) (a0_3 : Int) (a0_4 : Int) (a0_5 : Int) (a0_6 : Int) (a0_7 : Int) (a0_8 : Int) (a1 : Int) : Option (Int) := some (mx (wrap64 (-a0_4)) (mn a0_3 a1))
set_option maxHeartbeats 8000000 in
set_option maxRecDepth 100000 in
theorem unit_held.calls (a0_0 : Int) (a0_1 : Int) (A0_2 : Option Addr) (c0_2 : Nat) (l0_2 : List (S99)) (a0_3 : Int) (a0_4 : Int) (a0_5 : Int) (a0_6 : Int) (a0_7 : Int) (a0_8 : Int) (a1 : Int) (r : Int) (w : World) (hr0_2 : Kd.C k99 w A0_2 l0_2.length l0_2) (hc0_2 : l0_2.length ≤ c0_2) (h : unit_held.f a0_0 a0_1 l0_2 a0_3 a0_4 a0_5 a0_6 a0_7 a0_8 a1 = some r) :
    Calls Try.prog 50 #[.agg #[.int .i64 a0_0, .int .i64 a0_1, .slice A0_2 l0_2.length c0_2, .int .i64 a0_3, .int .i64 a0_4, .int .i64 a0_5, .int .i64 a0_6, .int .i64 a0_7, .int .i64 a0_8], .int .i64 a1] w fun e w' => e = .returned (.int .i64 r) ∧ Below w.heap.size w w' := by
  have hu24 := Try.underlying24
  have HR0_2 := Aside0.mk hr0_2
  have HC0_2 := Aside0.mk hc0_2
  clear hr0_2 hc0_2
  have HB := Aside0.mk (Below.refl w.heap.size w)
  have H : (some (mx (wrap64 (-a0_4)) (mn a0_3 a1))) = some r := h
  clear h
  obtain ⟨ji3, hji3⟩ : ∃ j_ : Int, (mn a0_3 a1) = j_ := ⟨_, rfl⟩
  replace H : (some (mx (wrap64 (-a0_4)) (ji3))) = some r := by first | (rw [hji3] at H; exact H) | (simp only [hji3] at H ⊢; exact H)
  have hji3_ : (if a1 < a0_3 then a1 else a0_3) = ji3 := hji3
  obtain ⟨ji4, hji4⟩ : ∃ j_ : Int, (mx (wrap64 (-a0_4)) (ji3)) = j_ := ⟨_, rfl⟩
  replace H : (some ji4) = some r := by first | (rw [hji4] at H; exact H) | (simp only [hji4] at H ⊢; exact H)
  have hji4_ : (if (wrap64 (-a0_4)) < (ji3) then (ji3) else (wrap64 (-a0_4))) = ji4 := hji4
  obtain rfl := Option.some.inj H
  go_enter Try.func50, Try.ntmps50
  go_wp2_with (first | ((with_reducible refine gate_dst (N := 2) rfl ?_); refine box_event ?hg (N := 2) ?hd (cs := #[.int .i64 a0_0, .int .i64 a0_1, .slice A0_2 l0_2.length c0_2, .int .i64 a0_3, .int .i64 a0_4, .int .i64 a0_5, .int .i64 a0_6, .int .i64 a0_7, .int .i64 a0_8]) (t := 24) ?hr ?_; (case hd => rfl); (case hg => rfl); (case hr => first | (go_simp; done) | (go_simp; rfl)); intro gb123 hg w5 hbox hb; have n0_ := Aside0.mk (below_step (by repeat (first | (with_reducible first | exact HB.out | apply below_alloc | apply pw_below_drewN | apply below_drew1) | exact HB.out)) hb); have n1_ := Aside0.mk (hbox); have n2_ := Aside0.mk ((by rw [hg]; exact (below_size (by repeat (first | (with_reducible first | exact HB.out | apply below_alloc | apply pw_below_drewN | apply below_drew1) | exact HB.out))) : w.heap.size ≤ gb123)); have n3_ := Aside0.mk ((by rw [hg]; exact (below_size (by repeat (first | (with_reducible first | exact HB.out | apply below_alloc | apply pw_below_drewN | apply below_drew1) | exact HB.out))) : w.heap.size ≤ gb123)); clear HB; have HB := n0_; have BK123 := n1_; have GW123 := n2_; have GE123 := n3_; clear n0_ n1_ n2_ n3_; clear hb hbox hg; have hcz6_0 : w5.cell? ⟨gb123, 0, none⟩ = some (.int .i64 a0_0) := (blk_cell BK123.out 0).trans rfl; have hcz6_1 : w5.cell? ⟨gb123, 1, none⟩ = some (.int .i64 a0_1) := (blk_cell BK123.out 1).trans rfl; have hcz6_2 : w5.cell? ⟨gb123, 2, none⟩ = some (.slice A0_2 l0_2.length c0_2) := (blk_cell BK123.out 2).trans rfl; have hcz6_3 : w5.cell? ⟨gb123, 3, none⟩ = some (.int .i64 a0_3) := (blk_cell BK123.out 3).trans rfl; have hcz6_4 : w5.cell? ⟨gb123, 4, none⟩ = some (.int .i64 a0_4) := (blk_cell BK123.out 4).trans rfl; have hcz6_5 : w5.cell? ⟨gb123, 5, none⟩ = some (.int .i64 a0_5) := (blk_cell BK123.out 5).trans rfl; have hcz6_6 : w5.cell? ⟨gb123, 6, none⟩ = some (.int .i64 a0_6) := (blk_cell BK123.out 6).trans rfl; have hcz6_7 : w5.cell? ⟨gb123, 7, none⟩ = some (.int .i64 a0_7) := (blk_cell BK123.out 7).trans rfl; have hcz6_8 : w5.cell? ⟨gb123, 8, none⟩ = some (.int .i64 a0_8) := (blk_cell BK123.out 8).trans rfl; have hfz6_0 := blk_frozen BK123.out 0; have hfz6_1 := blk_frozen BK123.out 1; have hfz6_2 := blk_frozen BK123.out 2; have hfz6_3 := blk_frozen BK123.out 3; have hfz6_4 := blk_frozen BK123.out 4; have hfz6_5 := blk_frozen BK123.out 5; have hfz6_6 := blk_frozen BK123.out 6; have hfz6_7 := blk_frozen BK123.out 7; have hfz6_8 := blk_frozen BK123.out 8))
  go_ret
  exact ⟨by first | rfl | (simp [errW_none, errW_some] <;> rfl) | (simp only [← hji3, ← hji4]; first | rfl | (simp [errW_none, errW_some] <;> rfl)) | (simp [*, errW_none, errW_some] <;> rfl), by repeat (first | (with_reducible first | exact HB.out | apply below_alloc | apply pw_below_drewN | apply below_drew1 | refine below_set ?_ GE123.out) | exact HB.out)⟩

end Go.Proofs.Ytelklgdmhnkenaa.U
/- Lean functions with the answers of Go functions, and proofs that the calls come to these answers (lines by a program of this session, wip/patch_print.py, over the kit's print tool). -/
namespace Go.Proofs.Ytelklgdmhnkenaa.U
open Go.RowKit Go.Proofs.YtelklgdmhnkenaaW.PrintWords Go.Proofs.YtelklgdmhnkenaaW.PrintLast Go.Proofs.YtelklgdmhnkenaaW.PrintMore
attribute [local go_sem] max2_int min2_int max_two min_two max_three min_three max_four min_four   -- for this text's walks alone
set_option linter.unusedVariables false
set_option linter.unusedSimpArgs false

/-! ### unit_Initial: function 23 -/
def unit_Initial.f (k : Nat) (a0_0 : Int) (a0_1 : Int) (l0_2 : List (S99)) (a0_3 : Int) (a0_4 : Int) (a0_5 : Int) (a0_6 : Int) (a0_7 : Int) (a0_8 : Int) : Option (Int) := (unit_may.f k a0_0 a0_1 l0_2 a0_3 a0_4 a0_5 a0_6 a0_7 a0_8).bind fun t125 => (if t125 = true then ((unit_held.f a0_0 a0_1 l0_2 a0_3 a0_4 a0_5 a0_6 a0_7 a0_8 a0_8).bind fun t126 => (some t126)) else (some 0))
set_option maxHeartbeats 8000000 in
set_option maxRecDepth 100000 in
theorem unit_Initial.calls (k : Nat) (a0_0 : Int) (a0_1 : Int) (A0_2 : Option Addr) (c0_2 : Nat) (l0_2 : List (S99)) (a0_3 : Int) (a0_4 : Int) (a0_5 : Int) (a0_6 : Int) (a0_7 : Int) (a0_8 : Int) (r : Int) (w : World) (hr0_2 : Kd.C k99 w A0_2 l0_2.length l0_2) (hc0_2 : l0_2.length ≤ c0_2) (h : unit_Initial.f k a0_0 a0_1 l0_2 a0_3 a0_4 a0_5 a0_6 a0_7 a0_8 = some r) :
    Calls Try.prog 23 #[.agg #[.int .i64 a0_0, .int .i64 a0_1, .slice A0_2 l0_2.length c0_2, .int .i64 a0_3, .int .i64 a0_4, .int .i64 a0_5, .int .i64 a0_6, .int .i64 a0_7, .int .i64 a0_8]] w fun e w' => e = .returned (.int .i64 r) ∧ Below w.heap.size w w' := by
  have hu24 := Try.underlying24
  have HR0_2 := Aside0.mk hr0_2
  have HC0_2 := Aside0.mk hc0_2
  clear hr0_2 hc0_2
  have HB := Aside0.mk (Below.refl w.heap.size w)
  have H : ((unit_may.f k a0_0 a0_1 l0_2 a0_3 a0_4 a0_5 a0_6 a0_7 a0_8).bind fun t125 => (if t125 = true then ((unit_held.f a0_0 a0_1 l0_2 a0_3 a0_4 a0_5 a0_6 a0_7 a0_8 a0_8).bind fun t126 => (some t126)) else (some 0))) = some r := h
  clear h
  replace H := Option.bind_eq_some_iff.mp H
  obtain ⟨t125, A20, H⟩ := H
  replace H : (if t125 = true then ((unit_held.f a0_0 a0_1 l0_2 a0_3 a0_4 a0_5 a0_6 a0_7 a0_8 a0_8).bind fun t126 => (some t126)) else (some 0)) = some r := H
  have A2 := Aside0.mk A20
  clear A20
  by_cases c3 : t125 = true
  · subst c3
    have H1 : ((unit_held.f a0_0 a0_1 l0_2 a0_3 a0_4 a0_5 a0_6 a0_7 a0_8 a0_8).bind fun t126 => (some t126)) = some r := by rw [if_pos rfl] at H; exact H
    clear H
    have H := H1
    clear H1
    replace H := Option.bind_eq_some_iff.mp H
    obtain ⟨t126, A40, H⟩ := H
    replace H : (some t126) = some r := H
    have A4 := Aside0.mk A40
    clear A40
    obtain rfl := Option.some.inj H
    go_enter Try.func23, Try.ntmps23
    go_wp2_with (first | ((with_reducible refine gate_dst (N := 1) rfl ?_); refine box_event ?hg (N := 1) ?hd (cs := #[.int .i64 a0_0, .int .i64 a0_1, .slice A0_2 l0_2.length c0_2, .int .i64 a0_3, .int .i64 a0_4, .int .i64 a0_5, .int .i64 a0_6, .int .i64 a0_7, .int .i64 a0_8]) (t := 24) ?hr ?_; (case hd => rfl); (case hg => rfl); (case hr => first | (go_simp; done) | (go_simp; rfl)); intro gb124 hg w5 hbox hb; have n0_ := Aside0.mk (below_step (by repeat (first | (with_reducible first | exact HB.out | apply below_alloc | apply pw_below_drewN | apply below_drew1) | exact HB.out)) hb); have n1_ := Aside0.mk (hbox); have n2_ := Aside0.mk ((by rw [hg]; exact (below_size (by repeat (first | (with_reducible first | exact HB.out | apply below_alloc | apply pw_below_drewN | apply below_drew1) | exact HB.out))) : w.heap.size ≤ gb124)); have n3_ := Aside0.mk ((by rw [hg]; exact (below_size (by repeat (first | (with_reducible first | exact HB.out | apply below_alloc | apply pw_below_drewN | apply below_drew1) | exact HB.out))) : w.heap.size ≤ gb124)); clear HB; have HB := n0_; have BK124 := n1_; have GW124 := n2_; have GE124 := n3_; clear n0_ n1_ n2_ n3_; clear hb hbox hg; have hcz6_0 : w5.cell? ⟨gb124, 0, none⟩ = some (.int .i64 a0_0) := (blk_cell BK124.out 0).trans rfl; have hcz6_1 : w5.cell? ⟨gb124, 1, none⟩ = some (.int .i64 a0_1) := (blk_cell BK124.out 1).trans rfl; have hcz6_2 : w5.cell? ⟨gb124, 2, none⟩ = some (.slice A0_2 l0_2.length c0_2) := (blk_cell BK124.out 2).trans rfl; have hcz6_3 : w5.cell? ⟨gb124, 3, none⟩ = some (.int .i64 a0_3) := (blk_cell BK124.out 3).trans rfl; have hcz6_4 : w5.cell? ⟨gb124, 4, none⟩ = some (.int .i64 a0_4) := (blk_cell BK124.out 4).trans rfl; have hcz6_5 : w5.cell? ⟨gb124, 5, none⟩ = some (.int .i64 a0_5) := (blk_cell BK124.out 5).trans rfl; have hcz6_6 : w5.cell? ⟨gb124, 6, none⟩ = some (.int .i64 a0_6) := (blk_cell BK124.out 6).trans rfl; have hcz6_7 : w5.cell? ⟨gb124, 7, none⟩ = some (.int .i64 a0_7) := (blk_cell BK124.out 7).trans rfl; have hcz6_8 : w5.cell? ⟨gb124, 8, none⟩ = some (.int .i64 a0_8) := (blk_cell BK124.out 8).trans rfl; have hfz6_0 := blk_frozen BK124.out 0; have hfz6_1 := blk_frozen BK124.out 1; have hfz6_2 := blk_frozen BK124.out 2; have hfz6_3 := blk_frozen BK124.out 3; have hfz6_4 := blk_frozen BK124.out 4; have hfz6_5 := blk_frozen BK124.out 5; have hfz6_6 := blk_frozen BK124.out 6; have hfz6_7 := blk_frozen BK124.out 7; have hfz6_8 := blk_frozen BK124.out 8) | ((with_reducible refine gate_callee (f := 49) rfl ?_); refine goesL_ (some 4) rfl rfl Try.func49 (by kernel_rfl) rfl #[.agg #[.int .i64 a0_0, .int .i64 a0_1, .slice A0_2 l0_2.length c0_2, .int .i64 a0_3, .int .i64 a0_4, .int .i64 a0_5, .int .i64 a0_6, .int .i64 a0_7, .int .i64 a0_8]] rfl (by (try simp only [List.map_toArray, List.map_cons, List.map_nil]); first | done | rfl | (simp only [List.length_drop, List.length_take]; rfl)) ?_; (with_reducible refine (unit_may.calls k a0_0 a0_1 _ _ l0_2 a0_3 a0_4 a0_5 a0_6 a0_7 a0_8 true _ ?side1 ?side2 A2.out).mono ?_); (case side1 => repeat (first | exact (Kd.C_below HR0_2.out HB.out) | (with_reducible refine Kd.C_alloc ?_ _) | (with_reducible refine Kd.C_drewN ?_ _) | (with_reducible refine Kd.C_drew ?_))); (case side2 => exact HC0_2.out); rintro e w7 ⟨rfl, hb⟩; refine ⟨_, rfl, ?_⟩; have n0_ := Aside0.mk (blk_below (g := gb124) (o := .cells #[.int .i64 a0_0, .int .i64 a0_1, .slice A0_2 l0_2.length c0_2, .int .i64 a0_3, .int .i64 a0_4, .int .i64 a0_5, .int .i64 a0_6, .int .i64 a0_7, .int .i64 a0_8] 24 (0, 0)) (by (with_reducible repeat (first | refine blk_drewN ?_ _ | refine blk_drew ?_ | refine blk_alloc ?_ _)); exact BK124.out) hb); have n1_ := Aside0.mk (below_step (by repeat (first | (with_reducible first | exact HB.out | apply below_alloc | apply pw_below_drewN | apply below_drew1 | refine below_set ?_ GE124.out) | exact HB.out)) hb); clear BK124; clear HB; have BK124 := n0_; have HB := n1_; clear n0_ n1_; (try clear hb); (try clear hb2); (try clear hk); (try clear hi); have hcz8_0 : w7.cell? ⟨gb124, 0, none⟩ = some (.int .i64 a0_0) := (blk_cell BK124.out 0).trans rfl; have hcz8_1 : w7.cell? ⟨gb124, 1, none⟩ = some (.int .i64 a0_1) := (blk_cell BK124.out 1).trans rfl; have hcz8_2 : w7.cell? ⟨gb124, 2, none⟩ = some (.slice A0_2 l0_2.length c0_2) := (blk_cell BK124.out 2).trans rfl; have hcz8_3 : w7.cell? ⟨gb124, 3, none⟩ = some (.int .i64 a0_3) := (blk_cell BK124.out 3).trans rfl; have hcz8_4 : w7.cell? ⟨gb124, 4, none⟩ = some (.int .i64 a0_4) := (blk_cell BK124.out 4).trans rfl; have hcz8_5 : w7.cell? ⟨gb124, 5, none⟩ = some (.int .i64 a0_5) := (blk_cell BK124.out 5).trans rfl; have hcz8_6 : w7.cell? ⟨gb124, 6, none⟩ = some (.int .i64 a0_6) := (blk_cell BK124.out 6).trans rfl; have hcz8_7 : w7.cell? ⟨gb124, 7, none⟩ = some (.int .i64 a0_7) := (blk_cell BK124.out 7).trans rfl; have hcz8_8 : w7.cell? ⟨gb124, 8, none⟩ = some (.int .i64 a0_8) := (blk_cell BK124.out 8).trans rfl; have hfz8_0 := blk_frozen BK124.out 0; have hfz8_1 := blk_frozen BK124.out 1; have hfz8_2 := blk_frozen BK124.out 2; have hfz8_3 := blk_frozen BK124.out 3; have hfz8_4 := blk_frozen BK124.out 4; have hfz8_5 := blk_frozen BK124.out 5; have hfz8_6 := blk_frozen BK124.out 6; have hfz8_7 := blk_frozen BK124.out 7; have hfz8_8 := blk_frozen BK124.out 8) | ((with_reducible refine gate_callee (f := 50) rfl ?_); refine goesL_ (some 9) rfl rfl Try.func50 (by kernel_rfl) rfl #[.agg #[.int .i64 a0_0, .int .i64 a0_1, .slice A0_2 l0_2.length c0_2, .int .i64 a0_3, .int .i64 a0_4, .int .i64 a0_5, .int .i64 a0_6, .int .i64 a0_7, .int .i64 a0_8], .int .i64 a0_8] rfl (by (try simp only [List.map_toArray, List.map_cons, List.map_nil]); first | done | rfl | (simp only [List.length_drop, List.length_take]; rfl)) ?_; (with_reducible refine (unit_held.calls a0_0 a0_1 _ _ l0_2 a0_3 a0_4 a0_5 a0_6 a0_7 a0_8 a0_8 t126 _ ?side1 ?side2 A4.out).mono ?_); (case side1 => repeat (first | exact (Kd.C_below HR0_2.out HB.out) | (with_reducible refine Kd.C_alloc ?_ _) | (with_reducible refine Kd.C_drewN ?_ _) | (with_reducible refine Kd.C_drew ?_))); (case side2 => exact HC0_2.out); rintro e w9 ⟨rfl, hb⟩; refine ⟨_, rfl, ?_⟩; have n0_ := Aside0.mk (blk_below (g := gb124) (o := .cells #[.int .i64 a0_0, .int .i64 a0_1, .slice A0_2 l0_2.length c0_2, .int .i64 a0_3, .int .i64 a0_4, .int .i64 a0_5, .int .i64 a0_6, .int .i64 a0_7, .int .i64 a0_8] 24 (0, 0)) (by (with_reducible repeat (first | refine blk_drewN ?_ _ | refine blk_drew ?_ | refine blk_alloc ?_ _)); exact BK124.out) hb); have n1_ := Aside0.mk (below_step (by repeat (first | (with_reducible first | exact HB.out | apply below_alloc | apply pw_below_drewN | apply below_drew1 | refine below_set ?_ GE124.out) | exact HB.out)) hb); clear BK124; clear HB; have BK124 := n0_; have HB := n1_; clear n0_ n1_; (try clear hb); (try clear hb2); (try clear hk); (try clear hi)))
    go_ret
    exact ⟨by first | rfl | (simp [errW_none, errW_some] <;> rfl) | (simp [*, errW_none, errW_some] <;> rfl), by repeat (first | (with_reducible first | exact HB.out | apply below_alloc | apply pw_below_drewN | apply below_drew1 | refine below_set ?_ GE124.out) | exact HB.out)⟩
  replace c3 := Bool.eq_false_iff.mpr c3
  subst c3
  have H1 : (some 0) = some r := by rw [if_neg (show ¬ (false = true) by decide)] at H; exact H
  clear H
  have H := H1
  clear H1
  obtain rfl := Option.some.inj H
  go_enter Try.func23, Try.ntmps23
  go_wp2_with (first | ((with_reducible refine gate_dst (N := 1) rfl ?_); refine box_event ?hg (N := 1) ?hd (cs := #[.int .i64 a0_0, .int .i64 a0_1, .slice A0_2 l0_2.length c0_2, .int .i64 a0_3, .int .i64 a0_4, .int .i64 a0_5, .int .i64 a0_6, .int .i64 a0_7, .int .i64 a0_8]) (t := 24) ?hr ?_; (case hd => rfl); (case hg => rfl); (case hr => first | (go_simp; done) | (go_simp; rfl)); intro gb124 hg w10 hbox hb; have n0_ := Aside0.mk (below_step (by repeat (first | (with_reducible first | exact HB.out | apply below_alloc | apply pw_below_drewN | apply below_drew1) | exact HB.out)) hb); have n1_ := Aside0.mk (hbox); have n2_ := Aside0.mk ((by rw [hg]; exact (below_size (by repeat (first | (with_reducible first | exact HB.out | apply below_alloc | apply pw_below_drewN | apply below_drew1) | exact HB.out))) : w.heap.size ≤ gb124)); have n3_ := Aside0.mk ((by rw [hg]; exact (below_size (by repeat (first | (with_reducible first | exact HB.out | apply below_alloc | apply pw_below_drewN | apply below_drew1) | exact HB.out))) : w.heap.size ≤ gb124)); clear HB; have HB := n0_; have BK124 := n1_; have GW124 := n2_; have GE124 := n3_; clear n0_ n1_ n2_ n3_; clear hb hbox hg; have hcz11_0 : w10.cell? ⟨gb124, 0, none⟩ = some (.int .i64 a0_0) := (blk_cell BK124.out 0).trans rfl; have hcz11_1 : w10.cell? ⟨gb124, 1, none⟩ = some (.int .i64 a0_1) := (blk_cell BK124.out 1).trans rfl; have hcz11_2 : w10.cell? ⟨gb124, 2, none⟩ = some (.slice A0_2 l0_2.length c0_2) := (blk_cell BK124.out 2).trans rfl; have hcz11_3 : w10.cell? ⟨gb124, 3, none⟩ = some (.int .i64 a0_3) := (blk_cell BK124.out 3).trans rfl; have hcz11_4 : w10.cell? ⟨gb124, 4, none⟩ = some (.int .i64 a0_4) := (blk_cell BK124.out 4).trans rfl; have hcz11_5 : w10.cell? ⟨gb124, 5, none⟩ = some (.int .i64 a0_5) := (blk_cell BK124.out 5).trans rfl; have hcz11_6 : w10.cell? ⟨gb124, 6, none⟩ = some (.int .i64 a0_6) := (blk_cell BK124.out 6).trans rfl; have hcz11_7 : w10.cell? ⟨gb124, 7, none⟩ = some (.int .i64 a0_7) := (blk_cell BK124.out 7).trans rfl; have hcz11_8 : w10.cell? ⟨gb124, 8, none⟩ = some (.int .i64 a0_8) := (blk_cell BK124.out 8).trans rfl; have hfz11_0 := blk_frozen BK124.out 0; have hfz11_1 := blk_frozen BK124.out 1; have hfz11_2 := blk_frozen BK124.out 2; have hfz11_3 := blk_frozen BK124.out 3; have hfz11_4 := blk_frozen BK124.out 4; have hfz11_5 := blk_frozen BK124.out 5; have hfz11_6 := blk_frozen BK124.out 6; have hfz11_7 := blk_frozen BK124.out 7; have hfz11_8 := blk_frozen BK124.out 8) | ((with_reducible refine gate_callee (f := 49) rfl ?_); refine goesL_ (some 4) rfl rfl Try.func49 (by kernel_rfl) rfl #[.agg #[.int .i64 a0_0, .int .i64 a0_1, .slice A0_2 l0_2.length c0_2, .int .i64 a0_3, .int .i64 a0_4, .int .i64 a0_5, .int .i64 a0_6, .int .i64 a0_7, .int .i64 a0_8]] rfl (by (try simp only [List.map_toArray, List.map_cons, List.map_nil]); first | done | rfl | (simp only [List.length_drop, List.length_take]; rfl)) ?_; (with_reducible refine (unit_may.calls k a0_0 a0_1 _ _ l0_2 a0_3 a0_4 a0_5 a0_6 a0_7 a0_8 false _ ?side1 ?side2 A2.out).mono ?_); (case side1 => repeat (first | exact (Kd.C_below HR0_2.out HB.out) | (with_reducible refine Kd.C_alloc ?_ _) | (with_reducible refine Kd.C_drewN ?_ _) | (with_reducible refine Kd.C_drew ?_))); (case side2 => exact HC0_2.out); rintro e w12 ⟨rfl, hb⟩; refine ⟨_, rfl, ?_⟩; have n0_ := Aside0.mk (blk_below (g := gb124) (o := .cells #[.int .i64 a0_0, .int .i64 a0_1, .slice A0_2 l0_2.length c0_2, .int .i64 a0_3, .int .i64 a0_4, .int .i64 a0_5, .int .i64 a0_6, .int .i64 a0_7, .int .i64 a0_8] 24 (0, 0)) (by (with_reducible repeat (first | refine blk_drewN ?_ _ | refine blk_drew ?_ | refine blk_alloc ?_ _)); exact BK124.out) hb); have n1_ := Aside0.mk (below_step (by repeat (first | (with_reducible first | exact HB.out | apply below_alloc | apply pw_below_drewN | apply below_drew1 | refine below_set ?_ GE124.out) | exact HB.out)) hb); clear BK124; clear HB; have BK124 := n0_; have HB := n1_; clear n0_ n1_; (try clear hb); (try clear hb2); (try clear hk); (try clear hi)))
  go_ret
  exact ⟨by first | rfl | (simp [errW_none, errW_some] <;> rfl) | (simp [*, errW_none, errW_some] <;> rfl), by repeat (first | (with_reducible first | exact HB.out | apply below_alloc | apply pw_below_drewN | apply below_drew1 | refine below_set ?_ GE124.out) | exact HB.out)⟩

end Go.Proofs.Ytelklgdmhnkenaa.U
/- Lean functions with the answers of Go functions, and proofs that the calls come to these answers (lines by a program of this session, wip/patch_print.py, over the kit's print tool). -/
namespace Go.Proofs.Ytelklgdmhnkenaa.U
open Go.RowKit Go.Proofs.YtelklgdmhnkenaaW.PrintWords Go.Proofs.YtelklgdmhnkenaaW.PrintLast Go.Proofs.YtelklgdmhnkenaaW.PrintMore
attribute [local go_sem] max2_int min2_int max_two min_two max_three min_three max_four min_four   -- for this text's walks alone
set_option linter.unusedVariables false
set_option linter.unusedSimpArgs false

/-! ### unit_next: function 48 -/
mutual
def unit_next.j0 : Nat → Int → Bool → Bool → Int → Int → List (S99) → Int → Int → Int → Int → Int → Int → Option (Int × Bool)
  | 0, _, _, _, _, _, _, _, _, _, _, _, _ => none
  | k + 1, x1, x2, x8, x133000, x133001, x133002, x133003, x133004, x133005, x133006, x133007, x133008 => if x8 = true then ((unit_held.f x133000 x133001 x133002 x133003 x133004 x133005 x133006 x133007 x133008 (wrap64 (x1 + 1))).bind fun t133 => (some (t133, true))) else (if x2 = true then (unit_next.j1 k x1 x2 false x133000 x133001 x133002 x133003 x133004 x133005 x133006 x133007 x133008) else (unit_next.j1 k x1 x2 (decide (x1 < 0)) x133000 x133001 x133002 x133003 x133004 x133005 x133006 x133007 x133008))
def unit_next.j1 : Nat → Int → Bool → Bool → Int → Int → List (S99) → Int → Int → Int → Int → Int → Int → Option (Int × Bool)
  | 0, _, _, _, _, _, _, _, _, _, _, _, _ => none
  | k + 1, x1, x2, x18, x133000, x133001, x133002, x133003, x133004, x133005, x133006, x133007, x133008 => if x18 = true then ((unit_held.f x133000 x133001 x133002 x133003 x133004 x133005 x133006 x133007 x133008 (wrap64 (x1 - 1))).bind fun t134 => (some (t134, true))) else (if x2 = true then (unit_next.j2 k x1 x2 (x1 == (wrap64 (-x133004))) x133000 x133001 x133002 x133003 x133004 x133005 x133006 x133007 x133008) else (unit_next.j2 k x1 x2 false x133000 x133001 x133002 x133003 x133004 x133005 x133006 x133007 x133008))
def unit_next.j2 : Nat → Int → Bool → Bool → Int → Int → List (S99) → Int → Int → Int → Int → Int → Int → Option (Int × Bool)
  | 0, _, _, _, _, _, _, _, _, _, _, _, _ => none
  | k + 1, x1, x2, x29, x133000, x133001, x133002, x133003, x133004, x133005, x133006, x133007, x133008 => if x29 = true then (some (1, true)) else (if x2 = true then (some (0, false)) else (if x1 = x133003 then (some ((-1), true)) else (some (0, false))))
end
def unit_next.f (k : Nat) (a0_0 : Int) (a0_1 : Int) (l0_2 : List (S99)) (a0_3 : Int) (a0_4 : Int) (a0_5 : Int) (a0_6 : Int) (a0_7 : Int) (a0_8 : Int) (a1 : Int) (a2 : Bool) : Option (Int × Bool) := if a2 = true then (unit_next.j0 k a1 a2 (decide (a1 > 0)) a0_0 a0_1 l0_2 a0_3 a0_4 a0_5 a0_6 a0_7 a0_8) else (unit_next.j0 k a1 a2 false a0_0 a0_1 l0_2 a0_3 a0_4 a0_5 a0_6 a0_7 a0_8)
theorem unit_next.mono_l : ∀ k, (∀ y0 y1 y2 y3 y4 y5 y6 y7 y8 y9 y10 y11, LeO (unit_next.j0 k y0 y1 y2 y3 y4 y5 y6 y7 y8 y9 y10 y11) (unit_next.j0 (k + 1) y0 y1 y2 y3 y4 y5 y6 y7 y8 y9 y10 y11)) ∧ (∀ y0 y1 y2 y3 y4 y5 y6 y7 y8 y9 y10 y11, LeO (unit_next.j1 k y0 y1 y2 y3 y4 y5 y6 y7 y8 y9 y10 y11) (unit_next.j1 (k + 1) y0 y1 y2 y3 y4 y5 y6 y7 y8 y9 y10 y11)) ∧ (∀ y0 y1 y2 y3 y4 y5 y6 y7 y8 y9 y10 y11, LeO (unit_next.j2 k y0 y1 y2 y3 y4 y5 y6 y7 y8 y9 y10 y11) (unit_next.j2 (k + 1) y0 y1 y2 y3 y4 y5 y6 y7 y8 y9 y10 y11))
  | 0 => ⟨fun _ _ _ _ _ _ _ _ _ _ _ _ r h => by simp [unit_next.j0] at h, fun _ _ _ _ _ _ _ _ _ _ _ _ r h => by simp [unit_next.j1] at h, fun _ _ _ _ _ _ _ _ _ _ _ _ r h => by simp [unit_next.j2] at h⟩
  | k + 1 => by
    obtain ⟨ih0, ih1, ih2⟩ := unit_next.mono_l k
    refine ⟨?_, ?_, ?_⟩
    · intro y0 y1 y2 y3 y4 y5 y6 y7 y8 y9 y10 y11
      unfold unit_next.j0
      repeat' first
      | (with_reducible exact ih0 _ _ _ _ _ _ _ _ _ _ _ _)
      | (with_reducible exact ih1 _ _ _ _ _ _ _ _ _ _ _ _)
      | (with_reducible exact ih2 _ _ _ _ _ _ _ _ _ _ _ _)
      | (with_reducible exact LeO.refl _)
      | (with_reducible exact LeO.none _)
      | (with_reducible refine LeO.ite ?_ ?_)
      | (with_reducible refine LeO.bind ?_ (fun _ => ?_))
      | exact ih0 _ _ _ _ _ _ _ _ _ _ _ _
      | exact ih1 _ _ _ _ _ _ _ _ _ _ _ _
      | exact ih2 _ _ _ _ _ _ _ _ _ _ _ _
      | exact LeO.none _
      | refine LeO.ite ?_ ?_
      | refine LeO.bind ?_ (fun _ => ?_)
    · intro y0 y1 y2 y3 y4 y5 y6 y7 y8 y9 y10 y11
      unfold unit_next.j1
      repeat' first
      | (with_reducible exact ih0 _ _ _ _ _ _ _ _ _ _ _ _)
      | (with_reducible exact ih1 _ _ _ _ _ _ _ _ _ _ _ _)
      | (with_reducible exact ih2 _ _ _ _ _ _ _ _ _ _ _ _)
      | (with_reducible exact LeO.refl _)
      | (with_reducible exact LeO.none _)
      | (with_reducible refine LeO.ite ?_ ?_)
      | (with_reducible refine LeO.bind ?_ (fun _ => ?_))
      | exact ih0 _ _ _ _ _ _ _ _ _ _ _ _
      | exact ih1 _ _ _ _ _ _ _ _ _ _ _ _
      | exact ih2 _ _ _ _ _ _ _ _ _ _ _ _
      | exact LeO.none _
      | refine LeO.ite ?_ ?_
      | refine LeO.bind ?_ (fun _ => ?_)
    intro y0 y1 y2 y3 y4 y5 y6 y7 y8 y9 y10 y11
    unfold unit_next.j2
    repeat' first
    | (with_reducible exact ih0 _ _ _ _ _ _ _ _ _ _ _ _)
    | (with_reducible exact ih1 _ _ _ _ _ _ _ _ _ _ _ _)
    | (with_reducible exact ih2 _ _ _ _ _ _ _ _ _ _ _ _)
    | (with_reducible exact LeO.refl _)
    | (with_reducible exact LeO.none _)
    | (with_reducible refine LeO.ite ?_ ?_)
    | (with_reducible refine LeO.bind ?_ (fun _ => ?_))
    | exact ih0 _ _ _ _ _ _ _ _ _ _ _ _
    | exact ih1 _ _ _ _ _ _ _ _ _ _ _ _
    | exact ih2 _ _ _ _ _ _ _ _ _ _ _ _
    | exact LeO.none _
    | refine LeO.ite ?_ ?_
    | refine LeO.bind ?_ (fun _ => ?_)
theorem unit_next.mono : ∀ a0 a1 a2 a3 a4 a5 a6 a7 a8 a9 a10 k, LeO (unit_next.f k a0 a1 a2 a3 a4 a5 a6 a7 a8 a9 a10) (unit_next.f (k + 1) a0 a1 a2 a3 a4 a5 a6 a7 a8 a9 a10) := by
  intro a0 a1 a2 a3 a4 a5 a6 a7 a8 a9 a10 k
  obtain ⟨ih0, ih1, ih2⟩ := unit_next.mono_l k
  unfold unit_next.f
  repeat' first
      | (with_reducible exact ih0 _ _ _ _ _ _ _ _ _ _ _ _)
      | (with_reducible exact ih1 _ _ _ _ _ _ _ _ _ _ _ _)
      | (with_reducible exact ih2 _ _ _ _ _ _ _ _ _ _ _ _)
      | (with_reducible exact LeO.refl _)
      | (with_reducible exact LeO.none _)
      | (with_reducible refine LeO.ite ?_ ?_)
      | (with_reducible refine LeO.bind ?_ (fun _ => ?_))
      | exact ih0 _ _ _ _ _ _ _ _ _ _ _ _
      | exact ih1 _ _ _ _ _ _ _ _ _ _ _ _
      | exact ih2 _ _ _ _ _ _ _ _ _ _ _ _
      | exact LeO.none _
      | refine LeO.ite ?_ ?_
      | refine LeO.bind ?_ (fun _ => ?_)
set_option maxHeartbeats 8000000 in
set_option maxRecDepth 100000 in
theorem unit_next.calls (k : Nat) (a0_0 : Int) (a0_1 : Int) (A0_2 : Option Addr) (c0_2 : Nat) (l0_2 : List (S99)) (a0_3 : Int) (a0_4 : Int) (a0_5 : Int) (a0_6 : Int) (a0_7 : Int) (a0_8 : Int) (a1 : Int) (a2 : Bool) (r1 : Int) (r2 : Bool) (w : World) (hr0_2 : Kd.C k99 w A0_2 l0_2.length l0_2) (hc0_2 : l0_2.length ≤ c0_2) (h : unit_next.f k a0_0 a0_1 l0_2 a0_3 a0_4 a0_5 a0_6 a0_7 a0_8 a1 a2 = some (r1, r2)) :
    Calls Try.prog 48 #[.agg #[.int .i64 a0_0, .int .i64 a0_1, .slice A0_2 l0_2.length c0_2, .int .i64 a0_3, .int .i64 a0_4, .int .i64 a0_5, .int .i64 a0_6, .int .i64 a0_7, .int .i64 a0_8], .int .i64 a1, .bool a2] w fun e w' => e = .returned (.tuple #[.int .i64 r1, .bool r2]) ∧ Below w.heap.size w w' := by
  have hu24 := Try.underlying24
  have HR0_2 := Aside0.mk hr0_2
  have HC0_2 := Aside0.mk hc0_2
  clear hr0_2 hc0_2
  have HB := Aside0.mk (Below.refl w.heap.size w)
  have H : (if a2 = true then (unit_next.j0 k a1 a2 (decide (a1 > 0)) a0_0 a0_1 l0_2 a0_3 a0_4 a0_5 a0_6 a0_7 a0_8) else (unit_next.j0 k a1 a2 false a0_0 a0_1 l0_2 a0_3 a0_4 a0_5 a0_6 a0_7 a0_8)) = some (r1, r2) := h
  clear h
  have HC4 := Aside0.mk H
  clear H
  go_enter Try.func48, Try.ntmps48
  go_upto_region 1 with (first | ((with_reducible refine gate_dst (N := 3) rfl ?_); refine box_event ?hg (N := 3) ?hd (cs := #[.int .i64 a0_0, .int .i64 a0_1, .slice A0_2 l0_2.length c0_2, .int .i64 a0_3, .int .i64 a0_4, .int .i64 a0_5, .int .i64 a0_6, .int .i64 a0_7, .int .i64 a0_8]) (t := 24) ?hr ?_; (case hd => rfl); (case hg => rfl); (case hr => first | (go_simp; done) | (go_simp; rfl)); intro gb132 hg w5 hbox hb; have n0_ := Aside0.mk (below_step (by repeat (first | (with_reducible first | exact HB.out | apply below_alloc | apply pw_below_drewN | apply below_drew1) | exact HB.out)) hb); have n1_ := Aside0.mk (hbox); have n2_ := Aside0.mk ((by rw [hg]; exact (below_size (by repeat (first | (with_reducible first | exact HB.out | apply below_alloc | apply pw_below_drewN | apply below_drew1) | exact HB.out))) : w.heap.size ≤ gb132)); have n3_ := Aside0.mk ((by rw [hg]; exact (below_size (by repeat (first | (with_reducible first | exact HB.out | apply below_alloc | apply pw_below_drewN | apply below_drew1) | exact HB.out))) : w.heap.size ≤ gb132)); clear HB; have HB := n0_; have BK132 := n1_; have GW132 := n2_; have GE132 := n3_; clear n0_ n1_ n2_ n3_; clear hb hbox hg))
  (try simp only [Act.put, List.setIfInBounds_toArray, List.set_cons_zero, List.set_cons_succ])
  go_cut [8] (fun v8 wc => ∃ (kq : Nat) (x8_3 : Bool), v8 = .bool x8_3 ∧ Aside0 (unit_next.j0 kq a1 a2 x8_3 a0_0 a0_1 l0_2 a0_3 a0_4 a0_5 a0_6 a0_7 a0_8 = some (r1, r2)) ∧ Aside0 (kq ≤ k) ∧ Aside0 (wc.heap[gb132]? = some (.cells #[.int .i64 a0_0, .int .i64 a0_1, (.slice A0_2 l0_2.length c0_2), .int .i64 a0_3, .int .i64 a0_4, .int .i64 a0_5, .int .i64 a0_6, .int .i64 a0_7, .int .i64 a0_8] 24 (0, 0))) ∧ Aside0 (Below w.heap.size w wc))
  case first =>
    have H := HC4.out
    clear HC4
    by_cases c6 : a2 = true
    · subst c6
      have H1 : (unit_next.j0 k a1 true (decide (a1 > 0)) a0_0 a0_1 l0_2 a0_3 a0_4 a0_5 a0_6 a0_7 a0_8) = some (r1, r2) := by rw [if_pos rfl] at H; exact H
      clear H
      have H := H1
      clear H1
      have H' := Aside0.mk H
      clear H
      go_wp2
      go_meet
      case rel => exact ⟨_, (decide (a1 > 0)), (by first | rfl | (simp; done) | (simp [*]; done)), H', ⟨by first | omega | exact Nat.le_refl _⟩, ⟨by (with_reducible repeat (first | refine blk_drewN ?_ _ | refine blk_drew ?_ | refine blk_alloc ?_ _)); exact BK132.out⟩, ⟨by repeat (first | (with_reducible first | exact HB.out | apply below_alloc | apply pw_below_drewN | apply below_drew1 | refine below_set ?_ GE132.out) | exact HB.out)⟩⟩
    replace c6 := Bool.eq_false_iff.mpr c6
    subst c6
    have H1 : (unit_next.j0 k a1 false false a0_0 a0_1 l0_2 a0_3 a0_4 a0_5 a0_6 a0_7 a0_8) = some (r1, r2) := by rw [if_neg (show ¬ (false = true) by decide)] at H; exact H
    clear H
    have H := H1
    clear H1
    have H' := Aside0.mk H
    clear H
    go_wp2
    go_meet
    case rel => exact ⟨_, (false), (by first | rfl | (simp; done) | (simp [*]; done)), H', ⟨by first | omega | exact Nat.le_refl _⟩, ⟨by (with_reducible repeat (first | refine blk_drewN ?_ _ | refine blk_drew ?_ | refine blk_alloc ?_ _)); exact BK132.out⟩, ⟨by repeat (first | (with_reducible first | exact HB.out | apply below_alloc | apply pw_below_drewN | apply below_drew1 | refine below_set ?_ GE132.out) | exact HB.out)⟩⟩
  clear HC4
  try clear p2; try clear c4; try clear c6
  obtain ⟨kq, x8_3, rfl, HA, HJ3, BK132, HB⟩ := hcut
  cases kq with
  | zero => exact absurd HA.out (by simp [unit_next.j0])
  | succ kj3 =>
    have H := HA.out
    clear HA
    simp only [unit_next.j0] at H
    by_cases c7 : x8_3 = true
    · subst c7
      have H1 : ((unit_held.f a0_0 a0_1 l0_2 a0_3 a0_4 a0_5 a0_6 a0_7 a0_8 (wrap64 (a1 + 1))).bind fun t133 => (some (t133, true))) = some (r1, r2) := by rw [if_pos rfl] at H; exact H
      clear H
      have H := H1
      clear H1
      replace H := Option.bind_eq_some_iff.mp H
      obtain ⟨t133, A80, H⟩ := H
      replace H : (some (t133, true)) = some (r1, r2) := H
      have A8 := Aside0.mk A80
      clear A80
      simp only [Option.some.injEq, Prod.mk.injEq] at H
      obtain ⟨rfl, rfl⟩ := H
      obtain ⟨hcz9_0, hcz9_1, hcz9_2, hcz9_3, hcz9_4, hcz9_5, hcz9_6, hcz9_7, hcz9_8⟩ := cells9 BK132.out
      obtain ⟨hfz9_0, hfz9_1, hfz9_2, hfz9_3, hfz9_4, hfz9_5, hfz9_6, hfz9_7, hfz9_8⟩ := froz9 BK132.out
      go_wp2_with (first | ((with_reducible refine gate_callee (f := 50) rfl ?_); refine goesL_ (some 17) rfl rfl Try.func50 (by kernel_rfl) rfl #[.agg #[.int .i64 a0_0, .int .i64 a0_1, .slice A0_2 l0_2.length c0_2, .int .i64 a0_3, .int .i64 a0_4, .int .i64 a0_5, .int .i64 a0_6, .int .i64 a0_7, .int .i64 a0_8], .int .i64 (wrap64 (a1 + 1))] rfl (by (try simp only [List.map_toArray, List.map_cons, List.map_nil]); first | done | rfl | (simp only [List.length_drop, List.length_take]; rfl)) ?_; (with_reducible refine (unit_held.calls a0_0 a0_1 _ _ l0_2 a0_3 a0_4 a0_5 a0_6 a0_7 a0_8 (wrap64 (a1 + 1)) t133 _ ?side1 ?side2 A8.out).mono ?_); (case side1 => repeat (first | exact (Kd.C_below HR0_2.out HB.out) | (with_reducible refine Kd.C_alloc ?_ _) | (with_reducible refine Kd.C_drewN ?_ _) | (with_reducible refine Kd.C_drew ?_))); (case side2 => exact HC0_2.out); rintro e w10 ⟨rfl, hb⟩; refine ⟨_, rfl, ?_⟩; have n0_ := Aside0.mk (blk_below (g := gb132) (o := .cells #[.int .i64 a0_0, .int .i64 a0_1, .slice A0_2 l0_2.length c0_2, .int .i64 a0_3, .int .i64 a0_4, .int .i64 a0_5, .int .i64 a0_6, .int .i64 a0_7, .int .i64 a0_8] 24 (0, 0)) (by (with_reducible repeat (first | refine blk_drewN ?_ _ | refine blk_drew ?_ | refine blk_alloc ?_ _)); exact BK132.out) hb); have n1_ := Aside0.mk (below_step (by repeat (first | (with_reducible first | exact HB.out | apply below_alloc | apply pw_below_drewN | apply below_drew1 | refine below_set ?_ GE132.out) | exact HB.out)) hb); clear BK132; clear HB; have BK132 := n0_; have HB := n1_; clear n0_ n1_; (try clear hb); (try clear hb2); (try clear hk); (try clear hi)))
      go_ret2
      exact ⟨by first | rfl | (simp [errW_none, errW_some] <;> rfl) | (simp [*, errW_none, errW_some] <;> rfl), by repeat (first | (with_reducible first | exact HB.out | apply below_alloc | apply pw_below_drewN | apply below_drew1 | refine below_set ?_ GE132.out) | exact HB.out)⟩
    replace c7 := Bool.eq_false_iff.mpr c7
    subst c7
    have H1 : (if a2 = true then (unit_next.j1 kj3 a1 a2 false a0_0 a0_1 l0_2 a0_3 a0_4 a0_5 a0_6 a0_7 a0_8) else (unit_next.j1 kj3 a1 a2 (decide (a1 < 0)) a0_0 a0_1 l0_2 a0_3 a0_4 a0_5 a0_6 a0_7 a0_8)) = some (r1, r2) := by rw [if_neg (show ¬ (false = true) by decide)] at H; exact H
    clear H
    have H := H1
    clear H1
    have HC11 := Aside0.mk H
    clear H
    go_upto_region 3 with (fail)
    go_cut [18] (fun v18 wc => ∃ (kq : Nat) (x18_10 : Bool), v18 = .bool x18_10 ∧ Aside0 (unit_next.j1 kq a1 a2 x18_10 a0_0 a0_1 l0_2 a0_3 a0_4 a0_5 a0_6 a0_7 a0_8 = some (r1, r2)) ∧ Aside0 (kq ≤ kj3) ∧ Aside0 (wc.heap[gb132]? = some (.cells #[.int .i64 a0_0, .int .i64 a0_1, (.slice A0_2 l0_2.length c0_2), .int .i64 a0_3, .int .i64 a0_4, .int .i64 a0_5, .int .i64 a0_6, .int .i64 a0_7, .int .i64 a0_8] 24 (0, 0))) ∧ Aside0 (Below w.heap.size w wc))
    case first =>
      have H := HC11.out
      clear HC11
      by_cases c12 : a2 = true
      · subst c12
        have H1 : (unit_next.j1 kj3 a1 true false a0_0 a0_1 l0_2 a0_3 a0_4 a0_5 a0_6 a0_7 a0_8) = some (r1, r2) := by rw [if_pos rfl] at H; exact H
        clear H
        have H := H1
        clear H1
        have H' := Aside0.mk H
        clear H
        go_wp2
        go_meet
        case rel => exact ⟨_, (false), (by first | rfl | (simp; done) | (simp [*]; done)), H', ⟨by have := HJ3.out; first | omega | exact Nat.le_refl _⟩, ⟨by (with_reducible repeat (first | refine blk_drewN ?_ _ | refine blk_drew ?_ | refine blk_alloc ?_ _)); exact BK132.out⟩, ⟨by repeat (first | (with_reducible first | exact HB.out | apply below_alloc | apply pw_below_drewN | apply below_drew1 | refine below_set ?_ GE132.out) | exact HB.out)⟩⟩
      replace c12 := Bool.eq_false_iff.mpr c12
      subst c12
      have H1 : (unit_next.j1 kj3 a1 false (decide (a1 < 0)) a0_0 a0_1 l0_2 a0_3 a0_4 a0_5 a0_6 a0_7 a0_8) = some (r1, r2) := by rw [if_neg (show ¬ (false = true) by decide)] at H; exact H
      clear H
      have H := H1
      clear H1
      have H' := Aside0.mk H
      clear H
      go_wp2
      go_meet
      case rel => exact ⟨_, (decide (a1 < 0)), (by first | rfl | (simp; done) | (simp [*]; done)), H', ⟨by have := HJ3.out; first | omega | exact Nat.le_refl _⟩, ⟨by (with_reducible repeat (first | refine blk_drewN ?_ _ | refine blk_drew ?_ | refine blk_alloc ?_ _)); exact BK132.out⟩, ⟨by repeat (first | (with_reducible first | exact HB.out | apply below_alloc | apply pw_below_drewN | apply below_drew1 | refine below_set ?_ GE132.out) | exact HB.out)⟩⟩
    clear HC11
    try clear c1; try clear p2; try clear c4; try clear c5; try clear c6; try clear p6; try clear c7; try clear c12; try clear hcz9_0; try clear hcz9_1; try clear hcz9_2; try clear hcz9_3; try clear hcz9_4; try clear hcz9_5; try clear hcz9_6; try clear hcz9_7; try clear hcz9_8; try clear hfz9_0; try clear hfz9_1; try clear hfz9_2; try clear hfz9_3; try clear hfz9_4; try clear hfz9_5; try clear hfz9_6; try clear hfz9_7; try clear hfz9_8; try clear p2
    obtain ⟨kq, x18_10, rfl, HA, HJ10, BK132, HB⟩ := hcut
    cases kq with
    | zero => exact absurd HA.out (by simp [unit_next.j1])
    | succ kj10 =>
      have H := HA.out
      clear HA
      simp only [unit_next.j1] at H
      by_cases c13 : x18_10 = true
      · subst c13
        have H1 : ((unit_held.f a0_0 a0_1 l0_2 a0_3 a0_4 a0_5 a0_6 a0_7 a0_8 (wrap64 (a1 - 1))).bind fun t134 => (some (t134, true))) = some (r1, r2) := by rw [if_pos rfl] at H; exact H
        clear H
        have H := H1
        clear H1
        replace H := Option.bind_eq_some_iff.mp H
        obtain ⟨t134, A140, H⟩ := H
        replace H : (some (t134, true)) = some (r1, r2) := H
        have A14 := Aside0.mk A140
        clear A140
        simp only [Option.some.injEq, Prod.mk.injEq] at H
        obtain ⟨rfl, rfl⟩ := H
        obtain ⟨hcz15_0, hcz15_1, hcz15_2, hcz15_3, hcz15_4, hcz15_5, hcz15_6, hcz15_7, hcz15_8⟩ := cells9 BK132.out
        obtain ⟨hfz15_0, hfz15_1, hfz15_2, hfz15_3, hfz15_4, hfz15_5, hfz15_6, hfz15_7, hfz15_8⟩ := froz9 BK132.out
        go_wp2_with (first | ((with_reducible refine gate_callee (f := 50) rfl ?_); refine goesL_ (some 28) rfl rfl Try.func50 (by kernel_rfl) rfl #[.agg #[.int .i64 a0_0, .int .i64 a0_1, .slice A0_2 l0_2.length c0_2, .int .i64 a0_3, .int .i64 a0_4, .int .i64 a0_5, .int .i64 a0_6, .int .i64 a0_7, .int .i64 a0_8], .int .i64 (wrap64 (a1 - 1))] rfl (by (try simp only [List.map_toArray, List.map_cons, List.map_nil]); first | done | rfl | (simp only [List.length_drop, List.length_take]; rfl)) ?_; (with_reducible refine (unit_held.calls a0_0 a0_1 _ _ l0_2 a0_3 a0_4 a0_5 a0_6 a0_7 a0_8 (wrap64 (a1 - 1)) t134 _ ?side1 ?side2 A14.out).mono ?_); (case side1 => repeat (first | exact (Kd.C_below HR0_2.out HB.out) | (with_reducible refine Kd.C_alloc ?_ _) | (with_reducible refine Kd.C_drewN ?_ _) | (with_reducible refine Kd.C_drew ?_))); (case side2 => exact HC0_2.out); rintro e w16 ⟨rfl, hb⟩; refine ⟨_, rfl, ?_⟩; have n0_ := Aside0.mk (blk_below (g := gb132) (o := .cells #[.int .i64 a0_0, .int .i64 a0_1, .slice A0_2 l0_2.length c0_2, .int .i64 a0_3, .int .i64 a0_4, .int .i64 a0_5, .int .i64 a0_6, .int .i64 a0_7, .int .i64 a0_8] 24 (0, 0)) (by (with_reducible repeat (first | refine blk_drewN ?_ _ | refine blk_drew ?_ | refine blk_alloc ?_ _)); exact BK132.out) hb); have n1_ := Aside0.mk (below_step (by repeat (first | (with_reducible first | exact HB.out | apply below_alloc | apply pw_below_drewN | apply below_drew1 | refine below_set ?_ GE132.out) | exact HB.out)) hb); clear BK132; clear HB; have BK132 := n0_; have HB := n1_; clear n0_ n1_; (try clear hb); (try clear hb2); (try clear hk); (try clear hi)))
        go_ret2
        exact ⟨by first | rfl | (simp [errW_none, errW_some] <;> rfl) | (simp [*, errW_none, errW_some] <;> rfl), by repeat (first | (with_reducible first | exact HB.out | apply below_alloc | apply pw_below_drewN | apply below_drew1 | refine below_set ?_ GE132.out) | exact HB.out)⟩
      replace c13 := Bool.eq_false_iff.mpr c13
      subst c13
      have H1 : (if a2 = true then (unit_next.j2 kj10 a1 a2 (a1 == (wrap64 (-a0_4))) a0_0 a0_1 l0_2 a0_3 a0_4 a0_5 a0_6 a0_7 a0_8) else (unit_next.j2 kj10 a1 a2 false a0_0 a0_1 l0_2 a0_3 a0_4 a0_5 a0_6 a0_7 a0_8)) = some (r1, r2) := by rw [if_neg (show ¬ (false = true) by decide)] at H; exact H
      clear H
      have H := H1
      clear H1
      have HC17 := Aside0.mk H
      clear H
      go_upto_region 5 with (fail)
      go_cut [29] (fun v29 wc => ∃ (kq : Nat) (x29_16 : Bool), v29 = .bool x29_16 ∧ Aside0 (unit_next.j2 kq a1 a2 x29_16 a0_0 a0_1 l0_2 a0_3 a0_4 a0_5 a0_6 a0_7 a0_8 = some (r1, r2)) ∧ Aside0 (kq ≤ kj10) ∧ Aside0 (wc.heap[gb132]? = some (.cells #[.int .i64 a0_0, .int .i64 a0_1, (.slice A0_2 l0_2.length c0_2), .int .i64 a0_3, .int .i64 a0_4, .int .i64 a0_5, .int .i64 a0_6, .int .i64 a0_7, .int .i64 a0_8] 24 (0, 0))) ∧ Aside0 (Below w.heap.size w wc))
      case first =>
        have H := HC17.out
        clear HC17
        by_cases c18 : a2 = true
        · subst c18
          have H1 : (unit_next.j2 kj10 a1 true (a1 == (wrap64 (-a0_4))) a0_0 a0_1 l0_2 a0_3 a0_4 a0_5 a0_6 a0_7 a0_8) = some (r1, r2) := by rw [if_pos rfl] at H; exact H
          clear H
          have H := H1
          clear H1
          have H' := Aside0.mk H
          clear H
          obtain ⟨hcz19_0, hcz19_1, hcz19_2, hcz19_3, hcz19_4, hcz19_5, hcz19_6, hcz19_7, hcz19_8⟩ := cells9 BK132.out
          obtain ⟨hfz19_0, hfz19_1, hfz19_2, hfz19_3, hfz19_4, hfz19_5, hfz19_6, hfz19_7, hfz19_8⟩ := froz9 BK132.out
          go_wp2
          go_meet
          case rel => exact ⟨_, ((a1 == (wrap64 (-a0_4)))), (by first | rfl | (simp; done) | (simp [*]; done)), H', ⟨by have := HJ3.out; have := HJ10.out; first | omega | exact Nat.le_refl _⟩, ⟨by (with_reducible repeat (first | refine blk_drewN ?_ _ | refine blk_drew ?_ | refine blk_alloc ?_ _)); exact BK132.out⟩, ⟨by repeat (first | (with_reducible first | exact HB.out | apply below_alloc | apply pw_below_drewN | apply below_drew1 | refine below_set ?_ GE132.out) | exact HB.out)⟩⟩
        replace c18 := Bool.eq_false_iff.mpr c18
        subst c18
        have H1 : (unit_next.j2 kj10 a1 false false a0_0 a0_1 l0_2 a0_3 a0_4 a0_5 a0_6 a0_7 a0_8) = some (r1, r2) := by rw [if_neg (show ¬ (false = true) by decide)] at H; exact H
        clear H
        have H := H1
        clear H1
        have H' := Aside0.mk H
        clear H
        go_wp2
        go_meet
        case rel => exact ⟨_, (false), (by first | rfl | (simp; done) | (simp [*]; done)), H', ⟨by have := HJ3.out; have := HJ10.out; first | omega | exact Nat.le_refl _⟩, ⟨by (with_reducible repeat (first | refine blk_drewN ?_ _ | refine blk_drew ?_ | refine blk_alloc ?_ _)); exact BK132.out⟩, ⟨by repeat (first | (with_reducible first | exact HB.out | apply below_alloc | apply pw_below_drewN | apply below_drew1 | refine below_set ?_ GE132.out) | exact HB.out)⟩⟩
      clear HC17
      try clear c1; try clear p2; try clear c4; try clear c5; try clear c6; try clear p6; try clear c7; try clear c12; try clear c13; try clear c18; try clear hcz15_0; try clear hcz15_1; try clear hcz15_2; try clear hcz15_3; try clear hcz15_4; try clear hcz15_5; try clear hcz15_6; try clear hcz15_7; try clear hcz15_8; try clear hcz19_0; try clear hcz19_1; try clear hcz19_2; try clear hcz19_3; try clear hcz19_4; try clear hcz19_5; try clear hcz19_6; try clear hcz19_7; try clear hcz19_8; try clear hcz9_0; try clear hcz9_1; try clear hcz9_2; try clear hcz9_3; try clear hcz9_4; try clear hcz9_5; try clear hcz9_6; try clear hcz9_7; try clear hcz9_8; try clear hfz15_0; try clear hfz15_1; try clear hfz15_2; try clear hfz15_3; try clear hfz15_4; try clear hfz15_5; try clear hfz15_6; try clear hfz15_7; try clear hfz15_8; try clear hfz19_0; try clear hfz19_1; try clear hfz19_2; try clear hfz19_3; try clear hfz19_4; try clear hfz19_5; try clear hfz19_6; try clear hfz19_7; try clear hfz19_8; try clear hfz9_0; try clear hfz9_1; try clear hfz9_2; try clear hfz9_3; try clear hfz9_4; try clear hfz9_5; try clear hfz9_6; try clear hfz9_7; try clear hfz9_8; try clear p2; try clear p6
      obtain ⟨kq, x29_16, rfl, HA, HJ16, BK132, HB⟩ := hcut
      cases kq with
      | zero => exact absurd HA.out (by simp [unit_next.j2])
      | succ kj16 =>
        have H := HA.out
        clear HA
        simp only [unit_next.j2] at H
        by_cases c20 : x29_16 = true
        · subst c20
          have H1 : (some (1, true)) = some (r1, r2) := by rw [if_pos rfl] at H; exact H
          clear H
          have H := H1
          clear H1
          simp only [Option.some.injEq, Prod.mk.injEq] at H
          obtain ⟨rfl, rfl⟩ := H
          go_wp2
          go_ret2
          exact ⟨by first | rfl | (simp [errW_none, errW_some] <;> rfl) | (simp [*, errW_none, errW_some] <;> rfl), by repeat (first | (with_reducible first | exact HB.out | apply below_alloc | apply pw_below_drewN | apply below_drew1 | refine below_set ?_ GE132.out) | exact HB.out)⟩
        replace c20 := Bool.eq_false_iff.mpr c20
        subst c20
        have H1 : (if a2 = true then (some (0, false)) else (if a1 = a0_3 then (some ((-1), true)) else (some (0, false)))) = some (r1, r2) := by rw [if_neg (show ¬ (false = true) by decide)] at H; exact H
        clear H
        have H := H1
        clear H1
        by_cases c21 : a2 = true
        · subst c21
          have H1 : (some (0, false)) = some (r1, r2) := by rw [if_pos rfl] at H; exact H
          clear H
          have H := H1
          clear H1
          simp only [Option.some.injEq, Prod.mk.injEq] at H
          obtain ⟨rfl, rfl⟩ := H
          go_wp2
          go_ret2
          exact ⟨by first | rfl | (simp [errW_none, errW_some] <;> rfl) | (simp [*, errW_none, errW_some] <;> rfl), by repeat (first | (with_reducible first | exact HB.out | apply below_alloc | apply pw_below_drewN | apply below_drew1 | refine below_set ?_ GE132.out) | exact HB.out)⟩
        replace c21 := Bool.eq_false_iff.mpr c21
        subst c21
        have H1 : (if a1 = a0_3 then (some ((-1), true)) else (some (0, false))) = some (r1, r2) := by rw [if_neg (show ¬ (false = true) by decide)] at H; exact H
        clear H
        have H := H1
        clear H1
        by_cases c22 : a1 = a0_3
        · rw [if_pos c22] at H
          have c22b0 : (a1 == a0_3) = true := beq_iff_eq.mpr c22
          have c22b1 : (a1 != a0_3) = false := bne_eq_false_iff_eq.mpr c22
          clear c22
          simp only [Option.some.injEq, Prod.mk.injEq] at H
          obtain ⟨rfl, rfl⟩ := H
          obtain ⟨hcz23_0, hcz23_1, hcz23_2, hcz23_3, hcz23_4, hcz23_5, hcz23_6, hcz23_7, hcz23_8⟩ := cells9 BK132.out
          obtain ⟨hfz23_0, hfz23_1, hfz23_2, hfz23_3, hfz23_4, hfz23_5, hfz23_6, hfz23_7, hfz23_8⟩ := froz9 BK132.out
          go_wp2
          go_ret2
          exact ⟨by first | rfl | (simp [errW_none, errW_some] <;> rfl) | (simp [*, errW_none, errW_some] <;> rfl), by repeat (first | (with_reducible first | exact HB.out | apply below_alloc | apply pw_below_drewN | apply below_drew1 | refine below_set ?_ GE132.out) | exact HB.out)⟩
        rw [if_neg c22] at H
        have c22b0 : (a1 == a0_3) = false := beq_eq_false_iff_ne.mpr c22
        have c22b1 : (a1 != a0_3) = true := bne_iff_ne.mpr c22
        simp only [Option.some.injEq, Prod.mk.injEq] at H
        obtain ⟨rfl, rfl⟩ := H
        obtain ⟨hcz24_0, hcz24_1, hcz24_2, hcz24_3, hcz24_4, hcz24_5, hcz24_6, hcz24_7, hcz24_8⟩ := cells9 BK132.out
        obtain ⟨hfz24_0, hfz24_1, hfz24_2, hfz24_3, hfz24_4, hfz24_5, hfz24_6, hfz24_7, hfz24_8⟩ := froz9 BK132.out
        go_wp2
        go_ret2
        exact ⟨by first | rfl | (simp [errW_none, errW_some] <;> rfl) | (simp [*, errW_none, errW_some] <;> rfl), by repeat (first | (with_reducible first | exact HB.out | apply below_alloc | apply pw_below_drewN | apply below_drew1 | refine below_set ?_ GE132.out) | exact HB.out)⟩

end Go.Proofs.Ytelklgdmhnkenaa.U
/- slices.Clone of a slice of bools that is not nil: a new slice of the same bools. -/
namespace Go.Proofs.Ytelklgdmhnkenaa.U
open Go.RowKit Go.Proofs.YtelklgdmhnkenaaW.PrintWords Go.Proofs.YtelklgdmhnkenaaW.PrintLast Go.Proofs.YtelklgdmhnkenaaW.PrintMore
set_option linter.unusedVariables false
set_option linter.unusedSimpArgs false

set_option maxHeartbeats 4000000 in
theorem clone_bools (ad : Addr) (c : Nat) (l : List Bool) (w : World) (hC : Kd.C Kd.bool w (some ad) l.length l) (hc : l.length ≤ c) (hl : l.length < 140737488355328) :
    Calls Try.prog 47 #[.slice (some ad) l.length c] w fun e w' => ∃ v, e = .returned v ∧ Kd.R Kd.bool 4 w' w.heap.size (fun _ => True) v l ∧ Below w.heap.size w w' := by
  have hu32 := Try.underlying32
  have HR := Aside0.mk hC
  have HL := Aside0.mk hl
  clear hC hl
  have HB := Aside0.mk (Below.refl w.heap.size w)
  have hnil := fun W => Lib.run_eql_slice_nil (P := Try.prog) W 32 4 (some ad) l.length c 0 0 Try.underlying32
  go_enter Try.func47, Try.ntmps47
  go_wp2_with (first | ((with_reducible refine gate_dst (N := 5) rfl ?_); refine Kd.R_lit Kd.bool w.heap.size 4 ?hg (N := 5) ?hd (xs := ([] : List Bool)) (inner := []) (ok := fun _ => True) (okp := fun _ => True) ?hr ?hp (fun _ hk => hk) trivial HB.out (Nat.le_refl _) (by simp) ?_; (case hd => rfl); (case hg => rfl); (case hr => first | (go_simp; done) | (go_simp; rfl)); (case hp => exact Reps.none _ _); intro v1 w1 ho hb hg_ hnew_; clear hg_ hnew_; have HO := Aside0.mk ho; clear HB; have HB := Aside0.mk hb; have HR1 := Aside0.mk (Kd.C_below HR.out hb); clear hb ho) | ((with_reducible refine gate_builtin (b := .append) (xs := #[.tmp 5, .tmp 6]) rfl ?_); at_builtin; refine Kd.R_append_rows Kd.bool (w0 := w) w.heap.size rfl (.tmp 5) (.tmp 6) 32 4 (.bool false) 1 rfl Try.underlying32 info4 rfl (by decide) (by omega) v1 [] l _ _ _ (fun _ => True) (fun _ => False) rfl rfl ?aO ?aR (fun _ _ h => h) (fun _ h => h.elim) ?aF ?aB ?aS ?aL ?_; (case aR => exact HR1.out); (case aB => exact HB.out); (case aF => exact (fun _ _ => trivial)); (case aO => exact HO.out); (case aS => exact HB.out.size); (case aL => have := HL.out; simp; omega); intro v2 w2 ho hb hg hat; rw [List.nil_append] at ho; have HO2 := Aside0.mk ho; have HB2 := Aside0.mk hb; clear ho hb hg hat))
  go_ret
  exact ⟨_, rfl, HO2.out, HB2.out⟩
end Go.Proofs.Ytelklgdmhnkenaa.U
/- unit.Schedules: all feasible schedules in order, as plain Lean, and that the call (a recursive closure) answers so. -/
namespace Go.Proofs.Ytelklgdmhnkenaa.U
open Go.RowKit Go.Proofs.YtelklgdmhnkenaaW.PrintWords Go.Proofs.YtelklgdmhnkenaaW.PrintLast Go.Proofs.YtelklgdmhnkenaaW.PrintMore
set_option linter.unusedVariables false
set_option linter.unusedSimpArgs false

/-- What unit.next answers. -/
def nxF (up down s : Int) (on : Bool) : Int × Bool :=
  if on = true ∧ s > 0 then (mx (wrap64 (-down)) (mn up (wrap64 (s + 1))), true)
  else if on = false ∧ s < 0 then (mx (wrap64 (-down)) (mn up (wrap64 (s - 1))), true)
  else if on = true ∧ s = wrap64 (-down) then (1, true)
  else if on = false ∧ s = up then (-1, true)
  else (0, false)
theorem next_f (bus min : Int) (l : List S99) (up down start idle spin ion s : Int) (on : Bool) :
    unit_next.f 3 bus min l up down start idle spin ion s on = some (nxF up down s on) := by
  unfold unit_next.f nxF
  cases on
  · simp only [unit_next.j0, unit_next.j1, unit_next.j2, unit_held.f, Option.bind_some]
    by_cases h : s < 0
    · have : ¬ s > 0 := by omega
      simp [h, this]
    · by_cases h2 : s = up
      · simp [h, h2]
        split <;> rfl
      · simp [h, h2]
  · simp only [unit_next.j0, unit_next.j1, unit_next.j2, unit_held.f, Option.bind_some]
    by_cases h : s > 0
    · simp [h]
    · by_cases h2 : s = wrap64 (-down)
      · simp [h, h2]
        split <;> rfl
      · simp [h, h2]

/-- The schedules that begin with 'pre' and go on for d hours from state s. -/
def schedFrom (up down : Int) : Nat → List Bool → Int → List (List Bool)
  | 0, pre, _ => [pre]
  | d + 1, pre, s =>
    (if (nxF up down s false).2 = true then schedFrom up down d (pre ++ [false]) (nxF up down s false).1 else []) ++
    (if (nxF up down s true).2 = true then schedFrom up down d (pre ++ [true]) (nxF up down s true).1 else [])
theorem schedFrom_length (up down : Int) : ∀ (d : Nat) (pre : List Bool) (s : Int), (schedFrom up down d pre s).length ≤ 2 ^ d
  | 0, _, _ => by simp [schedFrom]
  | d + 1, pre, s => by
    have h1 := schedFrom_length up down d (pre ++ [false]) (nxF up down s false).1
    have h2 := schedFrom_length up down d (pre ++ [true]) (nxF up down s true).1
    rw [schedFrom, List.length_append, Nat.pow_succ]
    split <;> split <;> simp <;> omega

def bls (l : List Bool) : List Value := l.map fun b => .bool b

theorem sched_apart {W w3 : World} {v v3 : Value} {gr R k : Nat} {pre : List Bool} (ho : Kd.R Kd.bool 4 w3 W.heap.size (fun _ => True) v3 pre) (hb : Below W.heap.size W w3)
    (hv : ∀ k, v.ownBlock = some k → k < W.heap.size) (hg : gr < W.heap.size) (hR : R < W.heap.size) (hk : some k = v3.ownBlock) : (k ≠ gr ∧ k ≠ R) ∧ some k ≠ v.ownBlock := by
  have h := Kd.R_base ho k hk.symm
  refine ⟨⟨by omega, by omega⟩, fun e => ?_⟩
  have := hv k e.symm
  omega
theorem sched_fresh {W w3 : World} {gr R k : Nat} (hb : Below W.heap.size W w3) (hg : gr < W.heap.size) (hR : R < W.heap.size) (hk : w3.heap.size ≤ k) : k ≠ gr ∧ k ≠ R := by
  have := hb.size
  exact ⟨by omega, by omega⟩

/-- The closure's variables in memory. -/
structure SInv (w0 W : World) (gu gh go gr gf R : Nat) (us : Array Value) (H p : Nat) (all : List Bool) (out : List (List Bool)) (v : Value) : Prop where
  u : W.heap[gu]? = some (.cells us 24 (0, 0))
  h : W.heap[gh]? = some (.cells #[.int .i64 H] 3 (0, 0))
  r : W.heap[gr]? = some (.cells #[.slice (some ⟨R, 0, none⟩) p H] 32 (0, 0))
  a : W.heap[R]? = some (.cells (bls all).toArray 4 (0, 0))
  f : W.heap[gf]? = some (.cells #[.func (.func 46) #[] #[.pointer (some ⟨gr, 0, none⟩), .pointer (some ⟨gh, 0, none⟩), .pointer (some ⟨go, 0, none⟩), .pointer (some ⟨gu, 0, none⟩), .pointer (some ⟨gf, 0, none⟩)]] 74 (0, 0))
  o : W.heap[go]? = some (.cells #[v] 27 (0, 0))
  s : Kd.S (Kd.slice 4 Kd.bool) 32 W w0.heap.size (fun k => k ≠ gr ∧ k ≠ R) v out
  b : Below w0.heap.size w0 W
theorem SInv.below {w0 W W' : World} {gu gh go gr gf R : Nat} {us : Array Value} {H p : Nat} {all : List Bool} {out : List (List Bool)} {v : Value} (i : SInv w0 W gu gh go gr gf R us H p all out v) (hb : Below W.heap.size W W') :
    SInv w0 W' gu gh go gr gf R us H p all out v :=
  ⟨blk_below i.u hb, blk_below i.h hb, blk_below i.r hb, blk_below i.a hb, blk_below i.f hb, blk_below i.o hb, Kd.S_below i.s hb, below_step i.b hb⟩
theorem sched_reads {w0 W : World} {gu gh go gr gf R : Nat} {us : Array Value} {H p : Nat} {all : List Bool} {out : List (List Bool)} {v : Value} (i : SInv w0 W gu gh go gr gf R us H p all out v) {pre : List Bool} (hp : all.take pre.length = pre) (hl : all.length ≤ 8) (hle : pre.length ≤ all.length) :
    Kd.C Kd.bool W (some ⟨R, 0, none⟩) pre.length pre := by
  refine ⟨rfl, by omega, fun _ => ⟨_, rfl, fun j b hj => ⟨[.bool b], rfl, rfl, fun q u hq => ?_⟩⟩⟩
  have hj' : j < pre.length := (List.getElem?_eq_some_iff.1 hj).1
  have hb : all[j]? = some b := by
    rw [← hp] at hj
    rw [List.getElem?_take_of_lt hj'] at hj
    exact hj
  obtain rfl : q = 0 := by
    have := (List.getElem?_eq_some_iff.1 hq).1
    simpa using this
  have : u = .bool b := by simpa using hq.symm
  subst this
  rw [show (Kd.bool).sz = 1 from rfl, Nat.mul_one, Nat.add_zero, add_plain, blk_cell i.a]
  simp [bls, hb]

set_option maxHeartbeats 8000000 in
set_option maxRecDepth 100000 in
theorem sched_leaf {w0 W : World} {gu gh go gr gf R : Nat} {us : Array Value} {H : Nat} {all : List Bool} {out : List (List Bool)} {v : Value} (pre : List Bool) (st : Int)
    (i : SInv w0 W gu gh go gr gf R us H pre.length all out v) (hp : all.take pre.length = pre) (hlen : all.length = H) (hd : pre.length = H) (hH : H ≤ 8) (hol : out.length < 256) (hgo : w0.heap.size ≤ go) :
    Calls Try.prog 46 #[.int .i64 st, .pointer (some ⟨gr, 0, none⟩), .pointer (some ⟨gh, 0, none⟩), .pointer (some ⟨go, 0, none⟩), .pointer (some ⟨gu, 0, none⟩), .pointer (some ⟨gf, 0, none⟩)] W fun e W' => e = .returned (.tuple #[]) ∧
      ∃ v', SInv w0 W' gu gh go gr gf R us H pre.length all (out ++ [pre]) v' ∧ ∀ k cs, W.heap[k]? = some (.cells cs 4 (0, 0)) → k ≠ R → W'.heap[k]? = some (.cells cs 4 (0, 0)) := by
  have hCR0 := sched_reads i hp (by omega) (by omega)
  have HCR := Aside0.mk hCR0
  have HI := Aside0.mk i
  have HS := Aside0.mk i.s
  have HB0 := Aside0.mk i.b
  have hcg : W.cell? ⟨gr, 0, none⟩ = some (.slice (some ⟨R, 0, none⟩) pre.length H) := (blk_cell i.r 0).trans rfl
  have hch : W.cell? ⟨gh, 0, none⟩ = some (.int .i64 H) := (blk_cell i.h 0).trans rfl
  have hco : W.cell? ⟨go, 0, none⟩ = some v := (blk_cell i.o 0).trans rfl
  have HCO := Aside0.mk hco
  have HCG := Aside0.mk hcg
  have HFO := Aside0.mk (blk_frozen i.o 0)
  have HPL := Aside0.mk (show pre.length ≤ H by omega)
  have HPB := Aside0.mk (show pre.length < 140737488355328 by omega)
  have HG1 := Aside0.mk (blk_lt i.r)
  have HGO := Aside0.mk (blk_lt i.o)
  have HR1 := Aside0.mk (blk_lt i.a)
  have HV1 := Aside0.mk (Kd.S_lt i.s)
  have HOL := Aside0.mk hol
  have HGE := Aside0.mk hgo
  have HVR : Aside0 (some gr ≠ v.ownBlock) := ⟨fun e => ((Kd.S_bound i.s).choose_spec.1 gr e.symm).1.1 rfl⟩
  have HVO : Aside0 (some go ≠ v.ownBlock) := ⟨fun e => by
    obtain ⟨cells, hc⟩ := Kd.S_typed i.s go e.symm
    rw [i.o] at hc
    injection hc with hc
    injection hc with _ hc
    exact absurd hc (by decide)⟩
  obtain ⟨Av, cv, ev⟩ := Kd.S_slice i.s
  have b0 : ((pre.length : Int) == (H : Int)) = true := by rw [beq_iff_eq]; omega
  have b1 : (pre.length == H) = true := by rw [beq_iff_eq]; exact hd
  have HD := Aside0.mk hd
  clear hCR0 i hp hlen hd hH hol hgo
  subst ev
  go_enter Try.func46, Try.ntmps46
  go_wp2_with fail
  refine start_ (n := 6) (S := fun w' => w'.cell? ⟨go, 0, none⟩ = some (.slice Av out.length cv) ∧ w'.cell? ⟨gr, 0, none⟩ = some (.slice (some ⟨R, 0, none⟩) pre.length H)) (ds := [5]) #[false, false, false, false, false, false] (by kernel_rfl) rfl rfl ⟨HCO.out, HCG.out⟩ (fun hHeld => ?_)
  refine take_ (i := 0) (N := some 15) (v := ?_) (a' := ?_) #[true, false, false, false, false, false] rfl rfl (by kernel_rfl) (fun _ _ _ h => h) (Or.inl ⟨by rfl, ?_⟩) hHeld ?_ ?_
  rotate_left
  · rintro w' ⟨s0, s1⟩
    go_simp
    with_reducible rfl
  rotate_left
  · simp only [Act.put, List.setIfInBounds_toArray, List.set_cons_zero, List.set_cons_succ, i64_w, i32_w]
    rfl
  refine take_ (i := 1) (N := some 16) (v := ?_) (a' := ?_) #[true, true, false, false, false, false] rfl rfl (by kernel_rfl) (fun _ _ _ h => h) (Or.inl ⟨by rfl, ?_⟩) hHeld ?_ ?_
  rotate_left
  · rintro w' ⟨s0, s1⟩
    go_simp
    with_reducible rfl
  rotate_left
  · simp only [Act.put, List.setIfInBounds_toArray, List.set_cons_zero, List.set_cons_succ, i64_w, i32_w]
    rfl
  refine one_ (i := 2) (N := some 17) #[true, true, true, false, false, false] rfl rfl (by kernel_rfl) (by decide) (fun K hK => ?_)
  refine goes_ Try.func47 (by kernel_rfl) rfl #[.slice (some ⟨R, 0, none⟩) pre.length H] (by rfl) rfl rfl (by simp only [List.map_toArray, List.map_cons, List.map_nil]; rfl) ?_
  with_reducible refine (clone_bools ⟨R, 0, none⟩ H pre _ (Kd.C_drew HCR.out) HPL.out HPB.out).mono ?_
  rintro e w3 ⟨v3, rfl, ho3, hb3⟩
  obtain ⟨A3, c3, e3⟩ := Kd.R_slice ho3
  subst e3
  refine ⟨_, rfl, ?_⟩
  refine hK.out _ _ ⟨(pw_cell_below hb3 hHeld.1), (pw_cell_below hb3 hHeld.2)⟩ (fun hHeld => ?_)
  clear hK K
  refine norm_ (a' := ?_) ?_ ?_
  rotate_left
  · show Act.put _ (some 17) _ = _
    simp only [Act.put, List.setIfInBounds_toArray, List.set_cons_zero, List.set_cons_succ, i64_w, i32_w]
    rfl
  refine one_ (i := 3) (N := some 18) #[true, true, true, true, false, false] rfl rfl (by kernel_rfl) (by decide) (fun K hK => ?_)
  refine value_ (w1 := ?_) (v := ?_) (by rfl) rfl ?_ ?_
  rotate_left 2
  · go_simp
    constructor
    · rfl
    · rfl
  refine hK.out _ _ ⟨(pw_cell_below (below_alloc (Below.refl _ _) _) hHeld.1), (pw_cell_below (below_alloc (Below.refl _ _) _) hHeld.2)⟩ (fun hHeld => ?_)
  clear hK K
  refine norm_ (a' := ?_) ?_ ?_
  rotate_left
  · show Act.put _ (some 18) _ = _
    simp only [Act.put, List.setIfInBounds_toArray, List.set_cons_zero, List.set_cons_succ, i64_w, i32_w]
    rfl
  refine one_ (i := 4) (N := some 19) #[true, true, true, true, true, false] rfl rfl (by kernel_rfl) (by decide) (fun K hK => ?_)
  refine Kd.S_append_step (Kd.slice 4 Kd.bool) (w0 := w0) w0.heap.size (by rfl) (.tmp 15) (.tmp 18) 27 32 (.slice none 0 0) 24 (by rfl) Try.underlying27 info32 rfl (by decide) (by decide) (.slice Av out.length cv) out pre [.slice A3 pre.length c3] (fun k => k ≠ gr ∧ k ≠ R) (fun k => some k = (Value.slice A3 pre.length c3).ownBlock) (by rfl) (by rfl) (Kd.M_row (Kd.R_lower (Kd.R_tight rfl ho3) HB0.out.size)) (fun k hk => sched_apart ho3 hb3 HV1.out HG1.out HR1.out hk) (fun k hk => sched_fresh hb3 HG1.out HR1.out hk) (Kd.S_mono (Kd.S_elder' (Kd.S_drew HS.out) (Kd.R_base ho3) hb3) (fun k hk => ⟨hk.1, fun h => hk.2 h⟩)) (below_step (below_drew HB0.out) hb3) (Nat.le_trans HB0.out.size hb3.size) (by have := HOL.out; omega) ?_
  intro v4 w4 ho4 hb4 hg4 hat4
  obtain ⟨A4, c4, e4⟩ := Kd.S_slice ho4
  subst e4
  have hne4 : ∀ k, k < W.heap.size → some k ≠ (Value.slice Av out.length cv).ownBlock → w4.heap[k]? = W.heap[k]? := fun k hk hn => (hg4.block k (Nat.lt_of_lt_of_le hk hb3.size) hn).trans (hb3.block k hk)
  refine hK.out _ _ ⟨((World.cell?_of_block (w := W) (hne4 go HGO.out HVO.out)).trans HCO.out), ((World.cell?_of_block (w := W) (hne4 gr HG1.out HVR.out)).trans HCG.out)⟩ (fun hHeld => ?_)
  clear hK K
  refine norm_ (a' := ?_) ?_ ?_
  rotate_left
  · show Act.put _ (some 19) _ = _
    simp only [Act.put, List.setIfInBounds_toArray, List.set_cons_zero, List.set_cons_succ, i64_w, i32_w]
    rfl
  refine last_ (i := 5) (N := none) #[true, true, true, true, true, true] rfl rfl (by kernel_rfl) (by decide) (fun K hK => ?_)
  have hfo : w4.frozen? ⟨go, 0, none⟩ = false := (World.frozen?_of_block (w := W) (hne4 go HGO.out HVO.out)).trans HFO.out
  have hco := hHeld.1
  refine skip_ (w1 := ?_) (by rfl) rfl ?_ ?_
  rotate_left
  · go_simp
    rfl
  refine hK.out _ _ ?_
  clear hK K
  refine done_ (by kernel_rfl) ?_
  go_wp2_with fail
  refine bodyPost_ret (results_none rfl _ _ _) rfl ?_
  have hI := HI.out
  have eL : (out ++ [pre]).length = out.length + 1 := by simp
  rw [eL] at ho4
  refine ⟨rfl, .slice A4 (out.length + 1) c4, ?_⟩
  have hfar : ∀ (k t : Nat) (cs : Array Value), W.heap[k]? = some (.cells cs t (0, 0)) → k ≠ go → t ≠ 32 ∨ k = gr → (w4.setCell ⟨go, 0, none⟩ (.slice A4 (out.length + 1) c4)).heap[k]? = some (.cells cs t (0, 0)) := fun k t cs hk hne ht => by
    rw [Below.heap_setCell _ _ _ _ (by exact hne)]
    refine (hne4 k (blk_lt hk) (fun e => ?_)).trans hk
    rcases ht with ht | rfl
    · obtain ⟨cells, hc⟩ := Kd.S_typed hI.s k e.symm
      rw [hk] at hc
      injection hc with hc
      injection hc with _ hc
      exact ht hc
    · exact HVR.out e
  have hneq : ∀ (k t : Nat) (cs : Array Value), W.heap[k]? = some (.cells cs t (0, 0)) → t ≠ 27 → k ≠ go := fun k t cs hk ht e => by
    subst e
    rw [hI.o] at hk
    injection hk with hk
    injection hk with _ hk
    exact ht hk.symm
  have ho4' : w4.heap[go]? = some (.cells #[.slice Av out.length cv] 27 (0, 0)) := (hne4 go (blk_lt hI.o) HVO.out).trans hI.o
  refine ⟨?_, fun k cs hk _ => hfar k 4 cs hk (hneq _ _ _ hk (by decide)) (.inl (by decide))⟩
  refine ⟨hfar _ _ _ hI.u (hneq _ _ _ hI.u (by decide)) (.inl (by decide)), hfar _ _ _ hI.h (hneq _ _ _ hI.h (by decide)) (.inl (by decide)), hfar _ _ _ hI.r (hneq _ _ _ hI.r (by decide)) (.inr rfl), hfar _ _ _ hI.a (hneq _ _ _ hI.a (by decide)) (.inl (by decide)), hfar _ _ _ hI.f (hneq _ _ _ hI.f (by decide)) (.inl (by decide)), blk_put ho4' 0 _ rfl, ?_, ?_⟩
  · exact Kd.S_set ho4 ho4' (by decide) 0 _
  · exact hb4.setCell (p := ⟨go, 0, none⟩) HGE.out _

theorem sched_append_room {P : Program} {w : World} {ops : Array Oper} {rest : List Oper} {o : Oper} {a : Act} {Q : Exit → Act → World → Prop}
    (hg : o.guard = none) (s x : Operand) (t : TypeId) (hop : o.op = Op.call { callee := Callee.builtin Builtin.append, args := #[s, x], argTypes := #[t, t] })
    (e : TypeId) (i : TypeInfo) (h1 : P.underlying t = some (.slice e)) (h2 : P.info? e = some i) (h4 : i.size = 1)
    (g n cap : Nat) (cur : Array Value) (hs : a.eval s = .slice (some ⟨g, 0, none⟩) n cap) (hb : w.heap[g]? = some (.cells cur e (0, 0))) (ad : Addr) (c : Nat) (u : Value) (hx : a.eval x = .slice (some ad) 1 c)
    (hc : w.cell? ad = some u) (h1c : u.oneCell' = true) (hroom : n + 1 ≤ cap) (hfit : n + 1 ≤ cur.size)
    (hK : wpList P ops Q rest (a.put o.dst (.slice (some ⟨g, 0, none⟩) (n + 1) cap)) (w.setRow g (cur.toList.take n ++ [u] ++ cur.toList.drop (n + 1)).toArray)) :
    wpList P ops Q (o :: rest) a w := by
  refine wpList_plain hg fun K hK' => ?_
  have hrun := run_append_room (P := P) w t o.type e i h1 h2 g n cap cur hb ad 1 c [u] (by rw [h4]; rfl) (fun j v hj => by
    obtain rfl : j = 0 := by
      have := (List.getElem?_eq_some_iff.1 hj).1
      simpa using this
    obtain rfl : u = v := by simpa using hj
    simpa [Addr.add] using hc) (by simpa using h1c) hroom (by rw [h4]; simpa using hfit)
  rw [h4, Nat.mul_one] at hrun
  unfold Oper.wp
  simp [execOp, hop, resolve, invoke, builtin, hs, hx, hrun, Result.andThen]
  refine hK' _ _ ?_
  simpa using hK
theorem below_setRow {B : Nat} {w0 W : World} (h : Below B w0 W) {g : Nat} (hg : B ≤ g) (cs : Array Value) : Below B w0 (W.setRow g cs) :=
  h.trans ⟨rfl, rfl, rfl, by simp, fun k hk => setRow_other W g k cs (by omega)⟩
section
variable {w0 W : World} {gu gh go gr gf R : Nat} {us : Array Value} {H p : Nat} {all : List Bool} {out : List (List Bool)} {v : Value}
theorem SInv.setR (i : SInv w0 W gu gh go gr gf R us H p all out v) (all' : List Bool) (hR : w0.heap.size ≤ R) : SInv w0 (W.setRow R (bls all').toArray) gu gh go gr gf R us H p all' out v := by
  have hne : ∀ (k t : Nat) (cs : Array Value), W.heap[k]? = some (.cells cs t (0, 0)) → t ≠ 4 → (W.setRow R (bls all').toArray).heap[k]? = some (.cells cs t (0, 0)) := fun k t cs hk ht =>
    (setRow_other W R k _ (blk_ne hk i.a ht)).trans hk
  exact ⟨hne _ _ _ i.u (by decide), hne _ _ _ i.h (by decide), hne _ _ _ i.r (by decide), setRow_heap W R _ _ 4 (0, 0) i.a, hne _ _ _ i.f (by decide), hne _ _ _ i.o (by decide), Kd.S_step i.s (fun k hk _ => setRow_other W R k _ hk.2), below_setRow i.b hR _⟩
theorem SInv.setG (i : SInv w0 W gu gh go gr gf R us H p all out v) (p' : Nat) (hg : w0.heap.size ≤ gr) : SInv w0 (W.setCell ⟨gr, 0, none⟩ (.slice (some ⟨R, 0, none⟩) p' H)) gu gh go gr gf R us H p' all out v := by
  have hne : ∀ (k t : Nat) (cs : Array Value), W.heap[k]? = some (.cells cs t (0, 0)) → t ≠ 32 → (W.setCell ⟨gr, 0, none⟩ (.slice (some ⟨R, 0, none⟩) p' H)).heap[k]? = some (.cells cs t (0, 0)) := fun k t cs hk ht =>
    (Below.heap_setCell W _ _ k (blk_ne hk i.r ht)).trans hk
  exact ⟨hne _ _ _ i.u (by decide), hne _ _ _ i.h (by decide), blk_put i.r 0 _ rfl, hne _ _ _ i.a (by decide), hne _ _ _ i.f (by decide), hne _ _ _ i.o (by decide), Kd.S_far i.s (fun k hk => hk.1) _, i.b.setCell (p := ⟨gr, 0, none⟩) hg _⟩
end
theorem bls_put (all : List Bool) (n : Nat) (b : Bool) : (bls all).toArray.toList.take n ++ [.bool b] ++ (bls all).toArray.toList.drop (n + 1) = bls (all.take n ++ [b] ++ all.drop (n + 1)) := by
  simp [bls, List.map_take, List.map_drop]
theorem put_take (all pre : List Bool) (b : Bool) (hp : all.take pre.length = pre) (hl : pre.length < all.length) : (all.take pre.length ++ [b] ++ all.drop (pre.length + 1)).take (pre ++ [b]).length = pre ++ [b] ∧ (all.take pre.length ++ [b] ++ all.drop (pre.length + 1)).length = all.length := by
  constructor
  · rw [hp, List.take_append_of_le_length (by simp), List.take_length]
  · rw [hp]
    simp
    omega
/-- What has come before round k of the loop over off, on. -/
def outAt (up down : Int) (d : Nat) (pre : List Bool) (st : Int) (out : List (List Bool)) (k : Nat) : List (List Bool) :=
  out ++ (if 0 < k then (if (nxF up down st false).2 = true then schedFrom up down d (pre ++ [false]) (nxF up down st false).1 else []) else []) ++
    (if 1 < k then (if (nxF up down st true).2 = true then schedFrom up down d (pre ++ [true]) (nxF up down st true).1 else []) else [])
theorem outAt_succ (up down : Int) (d : Nat) (pre : List Bool) (st : Int) (out : List (List Bool)) (k : Nat) (hk : k < 2) :
    outAt up down d pre st out (k + 1) = outAt up down d pre st out k ++ (if (nxF up down st (k == 1)).2 = true then schedFrom up down d (pre ++ [k == 1]) (nxF up down st (k == 1)).1 else []) := by
  obtain rfl | rfl : k = 0 ∨ k = 1 := by omega
  · simp [outAt]
  · simp [outAt]
theorem outAt_two (up down : Int) (d : Nat) (pre : List Bool) (st : Int) (out : List (List Bool)) : outAt up down d pre st out 2 = out ++ schedFrom up down (d + 1) pre st := by
  simp [outAt, schedFrom]
theorem outAt_zero (up down : Int) (d : Nat) (pre : List Bool) (st : Int) (out : List (List Bool)) : outAt up down d pre st out 0 = out := by
  simp [outAt]
theorem outAt_length (up down : Int) (d : Nat) (pre : List Bool) (st : Int) (out : List (List Bool)) (k : Nat) (hk : k < 2) : (outAt up down d pre st out k).length + 2 ^ d ≤ out.length + 2 ^ (d + 1) := by
  obtain rfl | rfl : k = 0 ∨ k = 1 := by omega
  · rw [outAt_zero, Nat.pow_succ]
    omega
  · have h1 := schedFrom_length up down d (pre ++ [false]) (nxF up down st false).1
    rw [Nat.pow_succ]
    by_cases hb : (nxF up down st false).2 = true
    · simp [outAt, hb]
      omega
    · simp [outAt, hb]
      omega

set_option maxHeartbeats 8000000 in
set_option maxRecDepth 100000 in
theorem sched_from {w0 : World} {gu gh go gr gf R : Nat} {H : Nat} (a0_0 a0_1 : Int) (A0_2 : Option Addr) (c0_2 : Nat) (l0_2 : List S99) (up down a0_5 a0_6 a0_7 a0_8 : Int)
    (hr : Kd.C k99 w0 A0_2 l0_2.length l0_2) (hc : l0_2.length ≤ c0_2) (hH : H ≤ 8) (hgo : w0.heap.size ≤ go) (hgr : w0.heap.size ≤ gr) (hR : w0.heap.size ≤ R) (d : Nat) :
    ∀ (W : World) (all : List Bool) (out : List (List Bool)) (v : Value) (pre : List Bool) (st : Int),
    SInv w0 W gu gh go gr gf R #[.int .i64 a0_0, .int .i64 a0_1, .slice A0_2 l0_2.length c0_2, .int .i64 up, .int .i64 down, .int .i64 a0_5, .int .i64 a0_6, .int .i64 a0_7, .int .i64 a0_8] H pre.length all out v →
    all.take pre.length = pre → all.length = H → pre.length + d = H → out.length + 2 ^ d ≤ 256 →
    Calls Try.prog 46 #[.int .i64 st, .pointer (some ⟨gr, 0, none⟩), .pointer (some ⟨gh, 0, none⟩), .pointer (some ⟨go, 0, none⟩), .pointer (some ⟨gu, 0, none⟩), .pointer (some ⟨gf, 0, none⟩)] W fun e W' => e = .returned (.tuple #[]) ∧
      ∃ v' all', all'.take pre.length = pre ∧ all'.length = H ∧
        SInv w0 W' gu gh go gr gf R #[.int .i64 a0_0, .int .i64 a0_1, .slice A0_2 l0_2.length c0_2, .int .i64 up, .int .i64 down, .int .i64 a0_5, .int .i64 a0_6, .int .i64 a0_7, .int .i64 a0_8] H pre.length all' (out ++ schedFrom up down d pre st) v' ∧
        ∀ k cs, W.heap[k]? = some (.cells cs 4 (0, 0)) → k ≠ R → W'.heap[k]? = some (.cells cs 4 (0, 0)) := by
  induction d with
  | zero =>
    intro W all out v pre st i hp hl hd ho
    refine (sched_leaf pre st i hp hl (by omega) hH (by simp at ho; omega) hgo).mono ?_
    rintro e W' ⟨rfl, v', i', hf⟩
    exact ⟨rfl, v', all, hp, hl, i', hf⟩
  | succ d ih =>
    intro W all out v pre st i hp hl hd ho
    have IH := Aside0.mk ih
    clear ih
    have HI := Aside0.mk i
    have HP := Aside0.mk hp
    have HL := Aside0.mk hl
    have HD := Aside0.mk hd
    have HO := Aside0.mk ho
    have HRR := Aside0.mk hr
    have HCC := Aside0.mk hc
    have HH := Aside0.mk hH
    have HG := Aside0.mk (And.intro hgo (And.intro hgr hR))
    have hcg : W.cell? ⟨gr, 0, none⟩ = some (.slice (some ⟨R, 0, none⟩) pre.length H) := (blk_cell i.r 0).trans rfl
    have hch : W.cell? ⟨gh, 0, none⟩ = some (.int .i64 H) := (blk_cell i.h 0).trans rfl
    have b0 : ((pre.length : Int) == (H : Int)) = false := by rw [beq_eq_false_iff_ne]; omega
    have b1 : (pre.length == H) = false := by rw [beq_eq_false_iff_ne]; omega
    have hLR : Aside0 (W.heap.size ≠ R) := ⟨by have := blk_lt i.a; omega⟩
    clear i hp hl hd ho hr hc hH hgo hgr hR
    go_enter Try.func46, Try.ntmps46
    go_wp2_with fail
    go_loopw [22] (fun v22 wr => ∃ (k : Nat) (v1 : Value) (all1 : List Bool), v22 = .int .i64 k ∧ Aside0 (k ≤ 2) ∧ Aside0 (all1.take pre.length = pre ∧ all1.length = H) ∧
      Aside0 (SInv w0 wr gu gh go gr gf R #[.int .i64 a0_0, .int .i64 a0_1, .slice A0_2 l0_2.length c0_2, .int .i64 up, .int .i64 down, .int .i64 a0_5, .int .i64 a0_6, .int .i64 a0_7, .int .i64 a0_8] H pre.length all1 (outAt up down d pre st out k) v1) ∧
      Aside0 (∀ k cs, (W.alloc (.cells #[.bool false, .bool true] 4)).heap[k]? = some (.cells cs 4 (0, 0)) → k ≠ R → wr.heap[k]? = some (.cells cs 4 (0, 0)))) (fun v22 _ => 2 - (intOf v22).toNat)
    case atStart => exact ⟨0, v, all, rfl, ⟨by omega⟩, ⟨HP.out, HL.out⟩, ⟨by rw [outAt_zero]; exact HI.out.below (below_alloc (Below.refl _ _) _)⟩, ⟨fun _ _ h _ => h⟩⟩
    case round =>
      clear b0 b1 hcg hch
      obtain ⟨k, v1, all1, rfl, HK, HA, HJ, HF⟩ := hrel
      have hJ := HJ.out
      have hcl : wr.heap[W.heap.size]? = some (.cells #[.bool false, .bool true] 4 (0, 0)) := HF.out _ _ (blk_new W _) hLR.out
      by_cases hk : k < 2
      · have hcb : wr.cell? ⟨W.heap.size, k, none⟩ = some (.bool (k == 1)) := by
          rw [blk_cell hcl]
          obtain rfl | rfl : k = 0 ∨ k = 1 := by omega
          · rfl
          · rfl
        have HS := Aside0.mk (outAt_succ up down d pre st out k hk)
        have HN := Aside0.mk (outAt_length up down d pre st out k hk)
        have HB1 := Aside0.mk hk
        generalize hb : (k == 1) = b at *
        have HBB := Aside0.mk hb
        clear hb
        have q0 : (k : Int) < 2 := by omega
        have q1 : (0 : Int) ≤ (k : Int) := by omega
        have u0 := (blk_cell hJ.u 0).trans rfl
        have u1 := (blk_cell hJ.u 1).trans rfl
        have u2 := (blk_cell hJ.u 2).trans rfl
        have u3 := (blk_cell hJ.u 3).trans rfl
        have u4 := (blk_cell hJ.u 4).trans rfl
        have u5 := (blk_cell hJ.u 5).trans rfl
        have u6 := (blk_cell hJ.u 6).trans rfl
        have u7 := (blk_cell hJ.u 7).trans rfl
        have u8 := (blk_cell hJ.u 8).trans rfl
        clear hJ hcl
        obtain ⟨s2, is2⟩ : ∃ s2, s2 = (nxF up down st b).1 := ⟨_, rfl⟩
        rcases hn : (nxF up down st b).2 with _ | _
        · have hnx : nxF up down st b = (s2, false) := by rw [is2, ← hn]
          have HX := Aside0.mk hnx
          clear hnx hn is2
          go_wp2_with fail
          refine (unit_next.calls 3 a0_0 a0_1 A0_2 c0_2 l0_2 up down a0_5 a0_6 a0_7 a0_8 st b s2 false _ (Kd.C_below HRR.out HJ.out.b) HCC.out (by rw [next_f, HX.out])).mono ?_
          rintro e w2 ⟨rfl, hb2⟩
          have HB2 := Aside0.mk hb2
          clear hb2 u0 u1 u2 u3 u4 u5 u6 u7 u8 hcb
          go_wp2_with fail
          go_roundw
          case rel => exact ⟨k + 1, v1, all1, by go_num, ⟨by have := HB1.out; omega⟩, HA, ⟨by rw [HS.out, HX.out]; simpa using HJ.out.below HB2.out⟩, ⟨fun q cs h hq => blk_below (HF.out q cs h hq) HB2.out⟩⟩
          case measure => simp [intOf]; have := HB1.out; omega
        · have hnx : nxF up down st b = (s2, true) := by rw [is2, ← hn]
          have HX := Aside0.mk hnx
          clear hnx hn is2
          go_wp2_with fail
          refine (unit_next.calls 3 a0_0 a0_1 A0_2 c0_2 l0_2 up down a0_5 a0_6 a0_7 a0_8 st b s2 true _ (Kd.C_below HRR.out HJ.out.b) HCC.out (by rw [next_f, HX.out])).mono ?_
          rintro e w2 ⟨rfl, hb2⟩
          have HB2 := Aside0.mk hb2
          have HJ2 := Aside0.mk (HJ.out.below hb2)
          clear hb2 u0 u1 u2 u3 u4 u5 u6 u7 u8 hcb
          have r2 : w2.cell? ⟨gr, 0, none⟩ = some (.slice (some ⟨R, 0, none⟩) pre.length H) := (blk_cell HJ2.out.r 0).trans rfl
          have fr2 := blk_frozen HJ2.out.r 0
          obtain ⟨i0, hi0, hii⟩ := Option.map_eq_some_iff.1 info4
          have HI0 := Aside0.mk hi0
          have HI1 : Aside0 (i0.size = 1) := ⟨by simp only [Prod.mk.injEq] at hii; exact hii.2.1⟩
          clear hi0 hii
          have HPT := Aside0.mk (put_take all1 pre b HA.out.1 (by have := HA.out.2; have := HD.out; omega))
          obtain ⟨all2, hall2⟩ : ∃ x, x = all1.take pre.length ++ [b] ++ all1.drop (pre.length + 1) := ⟨_, rfl⟩
          go_wp2_with (first | (at_builtin; refine sched_append_room rfl (.tmp 34) (.tmp 36) 32 rfl 4 i0 Try.underlying32 HI0.out HI1.out R pre.length H (bls all1).toArray rfl (blk_alloc HJ2.out.a _) ⟨w2.heap.size, 0, none⟩ 1 (.bool b) rfl ?c1 rfl ?c2 ?c3 ?_; (case c1 => exact (blk_cell (blk_new w2 _) 0).trans rfl); (case c2 => have := HD.out; omega); (case c3 => simp [bls]; have := HA.out.2; have := HD.out; omega); rw [bls_put, ← hall2]; obtain ⟨w3, hw3⟩ : ∃ w3, w3 = (w2.alloc (.cells #[.bool b] 4)).setRow R (bls all2).toArray := ⟨_, rfl⟩; rw [← hw3]; have HJ3 := Aside0.mk (show SInv w0 w3 gu gh go gr gf R _ H pre.length all2 _ v1 by rw [hw3]; exact (HJ2.out.below (below_alloc (Below.refl _ _) _)).setR all2 HG.out.2.2); have HF3 : Aside0 (∀ q cs, w2.heap[q]? = some (.cells cs 4 (0, 0)) → q ≠ R → w3.heap[q]? = some (.cells cs 4 (0, 0))) := ⟨fun q cs h hq => by rw [hw3, setRow_other _ _ _ _ hq]; exact blk_alloc h _⟩; clear hw3; have r3 : w3.cell? ⟨gr, 0, none⟩ = some (.slice (some ⟨R, 0, none⟩) pre.length H) := (blk_cell HJ3.out.r 0).trans rfl; have fr3 := blk_frozen HJ3.out.r 0) | ((with_reducible refine gate_store (t := 32) (p := 1) rfl ?_); refine store_event (t := 32) (p := 1) (v := .tmp 37) (w1 := w3.setCell ⟨gr, 0, none⟩ (.slice (some ⟨R, 0, none⟩) (pre.length + 1) H)) ?hg rfl ?hn ?hr ?_; (case hg => rfl); (case hn => rfl); (case hr => first | (go_simp; done) | (go_simp; rfl)); intro w4 hw4; have HJ4 := Aside0.mk (show SInv w0 w4 gu gh go gr gf R _ H (pre.length + 1) all2 _ v1 by rw [hw4]; exact HJ3.out.setG (pre.length + 1) HG.out.2.1); have HF4 : Aside0 (∀ q cs, w3.heap[q]? = some (.cells cs 4 (0, 0)) → q ≠ R → w4.heap[q]? = some (.cells cs 4 (0, 0))) := ⟨fun q cs h hq => by rw [hw4, Below.heap_setCell _ _ _ _ (blk_ne h HJ3.out.r (by decide))]; exact h⟩; clear hw4; have f4 := (blk_cell HJ4.out.f 0).trans rfl))
          refine (IH.out w4 all2 _ v1 (pre ++ [b]) s2 (by rw [List.length_append, List.length_singleton]; exact HJ4.out) (by rw [hall2]; exact HPT.out.1) (by rw [hall2]; exact HPT.out.2.trans HA.out.2) (by rw [List.length_append, List.length_singleton]; have := HD.out; omega) (by have := HN.out; have := HO.out; omega)).mono ?_
          rintro e w5 ⟨rfl, v5, all5, hp5, hl5, hj5, hf5⟩
          rw [List.length_append, List.length_singleton] at hj5
          have HJ5 := Aside0.mk hj5
          have HF5 := Aside0.mk hf5
          have HA5 : Aside0 (all5.take pre.length = pre ∧ all5.length = H) := ⟨by
            refine ⟨?_, hl5⟩
            have h1 := congrArg (List.take pre.length) hp5
            rw [List.take_take, List.take_append_of_le_length (Nat.le_refl _), List.take_length] at h1
            simpa using h1⟩
          clear hj5 hf5 hp5 hl5 r2 fr2 r3 fr3 f4
          have r5 : w5.cell? ⟨gr, 0, none⟩ = some (.slice (some ⟨R, 0, none⟩) (pre.length + 1) H) := (blk_cell HJ5.out.r 0).trans rfl
          have fr5 := blk_frozen HJ5.out.r 0
          have g0 : (0 : Int) ≤ (pre.length : Int) + 1 - 1 := by omega
          have g1 : (pre.length : Int) + 1 - 1 ≤ (H : Int) := by have := HD.out; omega
          have g2 : pre.length ≤ H := by have := HD.out; omega
          have g3 : H ≤ 8 := HH.out
          go_wp2_with ((with_reducible refine gate_store (t := 32) (p := 1) rfl ?_); refine store_event (t := 32) (p := 1) (v := .tmp 45) (w1 := w5.setCell ⟨gr, 0, none⟩ (.slice (some ⟨R, 0, none⟩) pre.length H)) ?hg rfl ?hn ?hr ?_; (case hg => rfl); (case hn => rfl); (case hr => first | (go_simp; done) | (go_simp; rfl)); intro w6 hw6; have HJ6 := Aside0.mk (show SInv w0 w6 gu gh go gr gf R _ H pre.length all5 _ v5 by rw [hw6]; exact HJ5.out.setG pre.length HG.out.2.1); have HF6 : Aside0 (∀ q cs, w5.heap[q]? = some (.cells cs 4 (0, 0)) → q ≠ R → w6.heap[q]? = some (.cells cs 4 (0, 0))) := ⟨fun q cs h hq => by rw [hw6, Below.heap_setCell _ _ _ _ (blk_ne h HJ5.out.r (by decide))]; exact h⟩; clear hw6)
          go_roundw
          case rel => exact ⟨k + 1, v5, all5, by go_num, ⟨by have := HB1.out; omega⟩, HA5, ⟨by rw [HS.out, HX.out]; exact HJ6.out⟩, ⟨fun q cs h hq => HF6.out q cs (HF5.out q cs (HF4.out q cs (HF3.out q cs (blk_below (HF.out q cs h hq) HB2.out) hq) hq) hq) hq⟩⟩
          case measure => simp [intOf]; have := HB1.out; omega
      · obtain rfl : k = 2 := by have := HK.out; omega
        have q0 : ¬ ((2 : Nat) : Int) < 2 := by omega
        clear hJ hcl
        go_wp2_with fail
        first | go_end0 | (refine bodyPost_ret (results_none rfl _ _ _) rfl ?_)
        exact ⟨rfl, v1, all1, HA.out.1, HA.out.2, by rw [← outAt_two]; exact HJ.out, fun q cs h hq => HF.out q cs (blk_alloc h _) hq⟩
end Go.Proofs.Ytelklgdmhnkenaa.U
/- Plain Lean: what the printed functions of the packages step and unit come to. -/
namespace Go.Proofs.Ytelklgdmhnkenaa.U
open Go.RowKit Go.Proofs.YtelklgdmhnkenaaW.PrintWords Go.Proofs.YtelklgdmhnkenaaW.PrintLast Go.Proofs.YtelklgdmhnkenaaW.PrintMore
set_option linter.unusedVariables false
set_option linter.unusedSimpArgs false

/-- From some number of rounds on, the answer is r. -/
def Evs {α : Type} (g : Nat → Option α) (r : α) : Prop := ∃ K, ∀ k, K ≤ k → g k = some r
theorem Evs.const {α : Type} {o : Option α} {r : α} (h : o = some r) : Evs (fun _ => o) r := ⟨0, fun _ _ => h⟩
theorem Evs.all {α : Type} {g : Nat → Option α} {r : α} (h : ∀ k, g k = some r) : Evs g r := ⟨0, fun k _ => h k⟩
theorem Evs.bind {α β : Type} {g : Nat → Option α} {f : Nat → α → Option β} {a : α} {r : β} (h : Evs g a) (h2 : Evs (fun k => f k a) r) : Evs (fun k => (g k).bind (f k)) r := by
  obtain ⟨K, hK⟩ := h
  obtain ⟨K2, hK2⟩ := h2
  exact ⟨K + K2, fun k hk => by show (g k).bind (f k) = some r; rw [hK k (by omega)]; exact hK2 k (by omega)⟩
theorem Evs.succ {α : Type} {g : Nat → Option α} {r : α} (h : Evs (fun k => g (k + 1)) r) : Evs g r := by
  obtain ⟨K, hK⟩ := h
  exact ⟨K + 1, fun k hk => by obtain ⟨m, rfl⟩ : ∃ m, k = m + 1 := ⟨k - 1, by omega⟩; exact hK m (by omega)⟩
theorem Evs.congr {α : Type} {g g' : Nat → Option α} {r : α} (h : Evs g r) (e : ∀ k, g' k = g k) : Evs g' r := by
  obtain ⟨K, hK⟩ := h
  exact ⟨K, fun k hk => (e k).trans (hK k hk)⟩
theorem Evs.some {α : Type} {g : Nat → Option α} {r : α} (h : Evs g r) : ∃ k, g k = Option.some r := by
  obtain ⟨K, hK⟩ := h
  exact ⟨K, hK K (Nat.le_refl _)⟩

def inB (a lo hi : Int) : Bool := decide (lo ≤ a) && decide (a ≤ hi)
theorem within_f (a lo hi : Int) : unit_within_int.f a lo hi = some (inB a lo hi) := by
  unfold unit_within_int.f inB
  by_cases h : a ≥ lo
  · rw [if_pos h]
    have : lo ≤ a := h
    simp [this]
  · rw [if_neg h]
    have : ¬ lo ≤ a := h
    simp [this]
theorem within64_f (a lo hi : Int) : unit_within_int64.f a lo hi = some (inB a lo hi) := within_f a lo hi

/-! ### curves -/
def qsum (l : List S99) : Int := (l.map (·.f0)).sum
theorem qsum_cons (x : S99) (l : List S99) : qsum (x :: l) = x.f0 + qsum l := by simp [qsum]
def curveF (l : List S99) : Int := if wrongF false l = 0 then 0 else wrongF true l
def sumF (l : List S99) : Int := if curveF l = 0 then qsum l else 0
def maxF (l : List S99) : Int := if wrongF true l = 0 then qsum l else 0
theorem wrongFrom_ok {up : Bool} : ∀ {prev : Option Int} {l : List S99}, wrongFrom up prev l = 0 → ∀ x ∈ l, 1 ≤ x.f0 ∧ x.f0 ≤ 1000000 ∧ -1000000 ≤ x.f1 ∧ x.f1 ≤ 1000000
  | _, [], _ => fun x hx => by cases hx
  | prev, y :: l, h => by
    unfold wrongFrom at h
    by_cases h1 : y.f0 < 1 ∨ 1000000 < y.f0 ∨ y.f1 < -1000000 ∨ 1000000 < y.f1
    · rw [if_pos h1] at h
      omega
    · rw [if_neg h1] at h
      generalize cutB up prev y.f1 = c at h
      cases c
      · intro x hx
        rcases List.mem_cons.1 hx with rfl | hx
        · omega
        · exact wrongFrom_ok (show wrongFrom up (some y.f1) l = 0 from h) x hx
      · exact absurd (show (3 : Int) = 0 from h) (by decide)
theorem wrongF_ok {up : Bool} {l : List S99} (h : wrongF up l = 0) : l.length ≤ 3 ∧ 0 < l.length ∧ ∀ x ∈ l, 1 ≤ x.f0 ∧ x.f0 ≤ 1000000 ∧ -1000000 ≤ x.f1 ∧ x.f1 ≤ 1000000 := by
  unfold wrongF at h
  by_cases h0 : l.length = 0
  · rw [if_pos h0] at h
    omega
  · rw [if_neg h0] at h
    by_cases h3 : 3 < l.length
    · rw [if_pos h3] at h
      omega
    · rw [if_neg h3] at h
      exact ⟨by omega, by omega, wrongFrom_ok h⟩
theorem wrongFrom_nonneg (up : Bool) : ∀ (prev : Option Int) (l : List S99), 0 ≤ wrongFrom up prev l ∧ wrongFrom up prev l ≤ 5
  | _, [] => by simp [wrongFrom]
  | prev, y :: l => by
    unfold wrongFrom
    have := wrongFrom_nonneg up (some y.f1) l
    split
    · omega
    · generalize cutB up prev y.f1 = c
      cases c
      · exact this
      · exact ⟨by simp, by simp⟩
theorem wrongF_nonneg (up : Bool) (l : List S99) : 0 ≤ wrongF up l ∧ wrongF up l ≤ 5 := by
  unfold wrongF
  have := wrongFrom_nonneg up none l
  split
  · omega
  · split
    · omega
    · exact this
theorem qsum_bound : ∀ {l : List S99}, (∀ x ∈ l, 1 ≤ x.f0 ∧ x.f0 ≤ 1000000 ∧ -1000000 ≤ x.f1 ∧ x.f1 ≤ 1000000) → 0 ≤ qsum l ∧ qsum l ≤ l.length * 1000000 ∧ (l.length : Int) ≤ qsum l
  | [], _ => by simp [qsum]
  | y :: l, h => by
    have h1 := h y List.mem_cons_self
    have h2 := qsum_bound (l := l) (fun x hx => h x (List.mem_cons_of_mem _ hx))
    rw [qsum_cons, List.length_cons]
    omega
theorem wrap_id {x : Int} (h0 : -9223372036854775808 ≤ x) (h1 : x ≤ 9223372036854775807) : wrap64 x = x := by unfold wrap64; omega

theorem curve_f (l : List S99) : step_curve.f l = some (curveF l) := by
  unfold step_curve.f step_CheckBid.f step_CheckOffer.f curveF
  simp only [Option.bind_some]
  split <;> rfl
theorem curve_ok {l : List S99} (h : curveF l = 0) : l.length ≤ 3 ∧ 0 < l.length ∧ ∀ x ∈ l, 1 ≤ x.f0 ∧ x.f0 ≤ 1000000 ∧ -1000000 ≤ x.f1 ∧ x.f1 ≤ 1000000 := by
  unfold curveF at h
  by_cases h1 : wrongF false l = 0
  · exact wrongF_ok h1
  · rw [if_neg h1] at h
    exact wrongF_ok h
theorem sum_loop (l : List S99) (hl : l.length ≤ 3) (hx : ∀ x ∈ l, 1 ≤ x.f0 ∧ x.f0 ≤ 1000000 ∧ -1000000 ≤ x.f1 ∧ x.f1 ≤ 1000000) (d : Nat) : ∀ (i : Nat) (acc : Int), l.length - i = d → i ≤ l.length → 0 ≤ acc → acc ≤ 1000000 * i →
    Evs (fun k => step_Sum.l0 k acc l (l.length : Int) (i : Int)) (acc + qsum (l.drop i)) := by
  induction d with
  | zero =>
    intro i acc hd hi h0 h1
    refine Evs.succ (Evs.all fun k => ?_)
    simp only [step_Sum.l0]
    rw [if_neg (by omega), List.drop_eq_nil_of_le (by omega)]
    simp [qsum]
  | succ d ih =>
    intro i acc hd hi h0 h1
    have hlt : i < l.length := by omega
    have hx1 := hx l[i] (List.getElem_mem hlt)
    have e := rd99 l i hlt
    have h := ih (i + 1) (acc + l[i].f0) (by omega) (by omega) (by omega) (by omega)
    rw [Int.add_assoc, ← qsum_cons, ← List.drop_eq_getElem_cons hlt] at h
    refine Evs.succ (h.congr fun k => ?_)
    simp only [step_Sum.l0]
    rw [if_pos (by omega), if_pos (by omega), if_pos (by omega), e, wrap_id (x := acc + l[i].f0) (by omega) (by omega), wrap_id (x := (i : Int) + 1) (by omega) (by omega)]
    rfl
theorem sum_f (l : List S99) : Evs (fun k => step_Sum.f k l) (sumF l) := by
  unfold step_Sum.f sumF
  simp only [curve_f, Option.bind_some]
  by_cases h : curveF l = 0
  · simp only [if_pos h]
    obtain ⟨h1, h2, h3⟩ := curve_ok h
    have := sum_loop l h1 h3 l.length 0 0 (by omega) (by omega) (by omega) (by omega)
    rw [Int.zero_add, List.drop_zero] at this
    exact this
  · simp only [if_neg h]
    exact Evs.const rfl
theorem max_f (a0 a1 : Int) (l : List S99) (a3 a4 a5 a6 a7 a8 : Int) : Evs (fun k => unit_Max.f k a0 a1 l a3 a4 a5 a6 a7 a8) (maxF l) := by
  unfold unit_Max.f maxF step_CheckOffer.f
  simp only [Option.bind_some]
  by_cases h : wrongF true l = 0
  · simp only [if_pos h]
    refine Evs.bind (sum_f l) (Evs.const ?_)
    unfold sumF curveF
    rw [h]
    simp
  · simp only [if_neg h]
    exact Evs.const rfl

/-! ### units -/
def checkF (b m : Int) (l : List S99) (up dn st id sp on buses : Int) : Int :=
  if (!(inB b 0 (wrap64 (buses - 1))) || decide (buses < 1)) = true then 1
  else if wrongF true l = 0 then
    (if (inB m 0 (maxF l) && inB sp 0 1000000 && (inB up 1 6 && inB dn 1 6 && inB on (-6) 6 && (on != 0)) && (inB st 0 1000000000 && inB id 0 1000000000)) = true then 0 else 1)
  else wrongF true l
theorem check_f (b m : Int) (l : List S99) (up dn st id sp on buses : Int) : Evs (fun k => unit_Check.f k b m l up dn st id sp on buses) (checkF b m l up dn st id sp on buses) := by
  obtain ⟨K, hK⟩ := max_f b m l up dn st id sp on
  refine ⟨K + 3, fun k hk => ?_⟩
  obtain ⟨k, rfl⟩ : ∃ j, k = j + 3 := ⟨k - 3, by omega⟩
  have hm := hK (k + 2) (by omega)
  unfold unit_Check.f checkF
  simp only [within_f, Option.bind_some]
  generalize inB b 0 (wrap64 (buses - 1)) = w1
  generalize decide (buses < 1) = w2
  simp only [unit_Check.j0, unit_Check.j1, unit_Check.j2, within_f, within64_f, Option.bind_some, step_CheckOffer.f, hm]
  generalize inB m 0 (maxF l) = w3
  generalize inB sp 0 1000000 = w4
  generalize inB up 1 6 = w5
  generalize inB dn 1 6 = w6
  generalize inB on (-6) 6 = w7
  generalize (on != 0) = w8
  generalize inB st 0 1000000000 = w9
  generalize inB id 0 1000000000 = w10
  generalize wrongF true l = e
  by_cases he : e = 0
  · simp only [he, if_true]
    cases w1 <;> cases w2 <;> try rfl
    cases w3 <;> cases w4 <;> cases w5 <;> cases w6 <;> cases w7 <;> cases w8 <;> cases w9 <;> cases w10 <;> rfl
  · simp only [he, if_false]
    cases w1 <;> cases w2 <;> rfl
end Go.Proofs.Ytelklgdmhnkenaa.U
/- unit.Schedules: that the call answers the schedules. -/
namespace Go.Proofs.Ytelklgdmhnkenaa.U
open Go.RowKit Go.Proofs.YtelklgdmhnkenaaW.PrintWords Go.Proofs.YtelklgdmhnkenaaW.PrintLast Go.Proofs.YtelklgdmhnkenaaW.PrintMore
set_option linter.unusedVariables false
set_option linter.unusedSimpArgs false

def initF (b m : Int) (l : List S99) (up dn st id sp on : Int) : Int := if checkF b m l up dn st id sp on 6 = 0 then mx (wrap64 (-dn)) (mn up on) else 0
theorem may_f (b m : Int) (l : List S99) (up dn st id sp on : Int) : Evs (fun k => unit_may.f k b m l up dn st id sp on) (checkF b m l up dn st id sp on 6 == 0) := by
  unfold unit_may.f
  exact Evs.bind (check_f b m l up dn st id sp on 6) (Evs.const rfl)
theorem init_f (b m : Int) (l : List S99) (up dn st id sp on : Int) : Evs (fun k => unit_Initial.f k b m l up dn st id sp on) (initF b m l up dn st id sp on) := by
  unfold unit_Initial.f initF
  refine Evs.bind (may_f b m l up dn st id sp on) ?_
  by_cases h : checkF b m l up dn st id sp on 6 = 0
  · simp only [h, unit_held.f]
    exact Evs.const rfl
  · simp only [beq_eq_false_iff_ne.2 h, if_neg h]
    exact Evs.const rfl
theorem goesF_ {P : Program} {ops : Array Oper} {Q : Exit → Act → World → Prop} {oi : Oper} {N : Option Tmp} {a : Act} {w : World} {K : Act → World → Prop} {f : FuncId} {fn : Func} {ars : Array Operand} {ts : Array TypeId} {x : Operand} {lb : Array Value} (hf : P.funcs[f]? = some fn) (hname : (fn.name == "runtime.NumGoroutine") = false) (hb : fn.body.isSome = true) (args : Array Value)
    (hw : Region.wanted oi (yielded ops a.tmps) = true) (hN : oi.dst = N) (hop : oi.op = .call { callee := .value x, args := ars, argTypes := ts }) (hx : a.eval x = .func (.func f) #[] lb) (hargs : ars.map a.eval = args)
    (h : Calls P f (args ++ lb) w fun e w' => ∃ v, e = .returned v ∧ K (a.put N v) w') : if Region.wanted oi (yielded ops a.tmps) = true then Oper.wp P oi a w K Q else K (a.put N undef) w := by
  refine call_ f (args ++ lb) hw hN ?_ h
  have he := enters_ hf hname hb (args ++ lb) w
  unfold execOp
  simp [hop, resolve, Deferred.ofValue, invoke, hx, hargs, he]
def schedF (b m : Int) (l : List S99) (up dn st id sp on hours : Int) : List (List Bool) × Int :=
  if checkF b m l up dn st id sp on 6 = 0 then (if inB hours 0 8 = true then (schedFrom up dn hours.toNat [] (initF b m l up dn st id sp on), 0) else ([], 1)) else ([], checkF b m l up dn st id sp on 6)
theorem made_bools (H : Nat) : madeCells #[Value.bool false] H = (bls (List.replicate H false)).toArray := by
  apply Array.ext
  · simp [madeCells, bls]
  · intro i h1 h2
    simp [madeCells, bls, Nat.mod_one]

set_option maxHeartbeats 8000000 in
set_option maxRecDepth 100000 in
theorem schedules_ok (a0_0 a0_1 : Int) (A0_2 : Option Addr) (c0_2 : Nat) (l0_2 : List S99) (a0_3 a0_4 a0_5 a0_6 a0_7 a0_8 : Int) (H : Nat) (w : World) (hr0_2 : Kd.C k99 w A0_2 l0_2.length l0_2) (hc0_2 : l0_2.length ≤ c0_2)
    (hc : checkF a0_0 a0_1 l0_2 a0_3 a0_4 a0_5 a0_6 a0_7 a0_8 6 = 0) (hH : H ≤ 8) :
    Calls Try.prog 19 #[.agg #[.int .i64 a0_0, .int .i64 a0_1, .slice A0_2 l0_2.length c0_2, .int .i64 a0_3, .int .i64 a0_4, .int .i64 a0_5, .int .i64 a0_6, .int .i64 a0_7, .int .i64 a0_8], .int .i64 H] w fun e w' => ∃ v0_ : Value, e = .returned (.tuple #[v0_, .int .i64 0]) ∧ Kd.S (Kd.slice 4 Kd.bool) 32 w' w.heap.size (fun _ => True) v0_ (schedFrom a0_3 a0_4 H [] (initF a0_0 a0_1 l0_2 a0_3 a0_4 a0_5 a0_6 a0_7 a0_8)) ∧ Below w.heap.size w w' := by
  obtain ⟨kc, hkc⟩ := (check_f a0_0 a0_1 l0_2 a0_3 a0_4 a0_5 a0_6 a0_7 a0_8 6).some
  rw [hc] at hkc
  obtain ⟨ki, hki⟩ := (init_f a0_0 a0_1 l0_2 a0_3 a0_4 a0_5 a0_6 a0_7 a0_8).some
  have HKC := Aside0.mk hkc
  have HKI := Aside0.mk hki
  have HR := Aside0.mk hr0_2
  have HC := Aside0.mk hc0_2
  have HH := Aside0.mk hH
  have hu24 := Try.underlying24
  generalize initF a0_0 a0_1 l0_2 a0_3 a0_4 a0_5 a0_6 a0_7 a0_8 = s0 at *
  obtain ⟨i0, hi0, hii⟩ := Option.map_eq_some_iff.1 info4
  simp only [Prod.mk.injEq] at hii
  have hmk : ∀ W : World, (Instr.makeSlice 32 (.int .i64 0) (.int .i64 (H : Int))).run Try.prog W = .ok (.slice (some ⟨W.heap.size, 0, none⟩) 0 H) (W.alloc (.cells (bls (List.replicate H false)).toArray 4)) := fun W => by
    have h := run_make W 32 4 i0 (.bool false) Try.underlying32 hi0 hii.1 .i64 .i64 0 (H : Int) (by omega) (by omega) (by rw [hii.2.2]; omega) (by omega)
    rw [hii.2.1, Int.toNat_natCast, Nat.mul_one] at h
    rw [← made_bools]
    exact h
  clear hkc hki hr0_2 hc0_2 hH hc hi0 hii
  go_enter Try.func19, Try.ntmps19
  go_wp2_with (first | ((with_reducible refine gate_dst (N := 2) rfl ?_); refine box_event ?hg (N := 2) ?hd (cs := #[.int .i64 a0_0, .int .i64 a0_1, .slice A0_2 l0_2.length c0_2, .int .i64 a0_3, .int .i64 a0_4, .int .i64 a0_5, .int .i64 a0_6, .int .i64 a0_7, .int .i64 a0_8]) (t := 24) ?hr ?_; (case hd => rfl); (case hg => rfl); (case hr => first | (go_simp; done) | (go_simp; rfl)); intro gu hgu w1 hU hb1; have HU := Aside0.mk hU; have HB := Aside0.mk hb1; have HGU := Aside0.mk (Nat.le_of_eq hgu.symm); clear hgu hU hb1) | ((with_reducible refine gate_dst (N := 3) rfl ?_); refine box_event ?hg (N := 3) ?hd (cs := #[.int .i64 H]) (t := 3) ?hr ?_; (case hd => rfl); (case hg => rfl); (case hr => first | (go_simp; done) | (go_simp; rfl)); intro gh hgh w2 hh hb2; have HG2 := Aside0.mk hh; have HU2 := Aside0.mk (blk_below HU.out hb2); have HB2 := Aside0.mk (below_step HB.out hb2); clear hgh hh hb2 HU HB; have u0 := (blk_cell HU2.out 0).trans rfl; have u1 := (blk_cell HU2.out 1).trans rfl; have u2 := (blk_cell HU2.out 2).trans rfl; have u3 := (blk_cell HU2.out 3).trans rfl; have u4 := (blk_cell HU2.out 4).trans rfl; have u5 := (blk_cell HU2.out 5).trans rfl; have u6 := (blk_cell HU2.out 6).trans rfl; have u7 := (blk_cell HU2.out 7).trans rfl; have u8 := (blk_cell HU2.out 8).trans rfl))
  refine (unit_Check.calls kc a0_0 a0_1 A0_2 c0_2 l0_2 a0_3 a0_4 a0_5 a0_6 a0_7 a0_8 6 0 _ (Kd.C_below HR.out HB2.out) HC.out HKC.out).mono ?_
  rintro e w3 ⟨rfl, hb3⟩
  have HU3 := Aside0.mk (blk_below HU2.out hb3)
  have HG3 := Aside0.mk (blk_below HG2.out hb3)
  have HB3 := Aside0.mk (below_step HB2.out hb3)
  clear hb3 HU2 HG2 HB2 u0 u1 u2 u3 u4 u5 u6 u7 u8
  have h3 : w3.cell? ⟨gh, 0, none⟩ = some (.int .i64 H) := (blk_cell HG3.out 0).trans rfl
  go_wp2_with fail
  refine (unit_within_int.calls (H : Int) 0 8 true _ (by rw [within_f]; have := HH.out; simp [inB]; omega)).mono ?_
  rintro e w4 ⟨rfl, hd4⟩
  have hb4 := hd4.below
  have HU4 := Aside0.mk (blk_below HU3.out hb4)
  have HG4 := Aside0.mk (blk_below HG3.out hb4)
  have HB4 := Aside0.mk (below_step HB3.out hb4)
  clear hb4 hd4 HU3 HG3 HB3 h3
  go_wp2_with (first | ((with_reducible refine gate_dst (N := 7) rfl ?_); refine box_event ?hg (N := 7) ?hd (cs := #[.slice none 0 0]) (t := 27) ?hr ?_; (case hd => rfl); (case hg => rfl); (case hr => first | (go_simp; done) | (go_simp; rfl)); intro go hg_ w5 hh_ hb_; have Ggo := Aside0.mk (show w.heap.size ≤ go by rw [hg_]; exact HB4.out.size); have HU5 := Aside0.mk (blk_below HU4.out hb_); have HG5 := Aside0.mk (blk_below HG4.out hb_); have HO5 := Aside0.mk hh_; have HB5 := Aside0.mk (below_step HB4.out hb_); clear hg_ hh_ hb_ HU4 HG4; have h5 : w5.cell? ⟨gh, 0, none⟩ = some (.int .i64 H) := (blk_cell HG5.out 0).trans rfl) | ((with_reducible refine gate_dst (N := 19) rfl ?_); refine Kd.event_run (w1 := w5.alloc (.cells (bls (List.replicate H false)).toArray 4)) (v := .slice (some ⟨w5.heap.size, 0, none⟩) 0 H) ?hg ?hr ?_; (case hg => rfl); (case hr => first | (go_simp; done) | (go_simp; rfl)); obtain ⟨R, hR_⟩ : ∃ R, R = w5.heap.size := ⟨_, rfl⟩; rw [← hR_]; have hM_ : (w5.alloc (.cells (bls (List.replicate H false)).toArray 4)).heap[R]? = some (.cells (bls (List.replicate H false)).toArray 4 (0, 0)) := by rw [hR_]; exact blk_new _ _; have hb_ := below_alloc (Below.refl w5.heap.size w5) (.cells (bls (List.replicate H false)).toArray 4); generalize w5.alloc (.cells (bls (List.replicate H false)).toArray 4) = w6 at *; have GR := Aside0.mk (show w.heap.size ≤ R by rw [hR_]; exact HB5.out.size); have HU6 := Aside0.mk (blk_below HU5.out hb_); have HG6 := Aside0.mk (blk_below HG5.out hb_); have HO6 := Aside0.mk (blk_below HO5.out hb_); have HM6 := Aside0.mk hM_; have HB6 := Aside0.mk (below_step HB5.out hb_); clear hR_ hM_ hb_ HU5 HG5 HO5 HB5 h5) | ((with_reducible refine gate_dst (N := 8) rfl ?_); refine box_event ?hg (N := 8) ?hd (cs := #[.slice none 0 0]) (t := 32) ?hr ?_; (case hd => rfl); (case hg => rfl); (case hr => first | (go_simp; done) | (go_simp; rfl)); intro gr hg_ w7 hh_ hb_; have Ggr := Aside0.mk (show w.heap.size ≤ gr by rw [hg_]; exact HB6.out.size); have HU7 := Aside0.mk (blk_below HU6.out hb_); have HG7 := Aside0.mk (blk_below HG6.out hb_); have HO7 := Aside0.mk (blk_below HO6.out hb_); have HM7 := Aside0.mk (blk_below HM6.out hb_); have HV7 := Aside0.mk hh_; have HB7 := Aside0.mk (below_step HB6.out hb_); clear hg_ hh_ hb_ HU6 HG6 HO6 HM6; have c7 : w7.cell? ⟨gr, 0, none⟩ = some (.slice none 0 0) := (blk_cell HV7.out 0).trans rfl; have f7 := blk_frozen HV7.out 0) | ((with_reducible refine gate_store (t := 32) (p := 8) rfl ?_); refine store_event (t := 32) (p := 8) (v := .tmp 19) (w1 := w7.setCell ⟨gr, 0, none⟩ (.slice (some ⟨R, 0, none⟩) 0 H)) ?hg rfl ?hn ?hr ?_; (case hg => rfl); (case hn => rfl); (case hr => first | (go_simp; done) | (go_simp; rfl)); intro w8 hw_; have HU8 := Aside0.mk (show w8.heap[_]? = _ by rw [hw_]; exact blk_far (p := ⟨gr, 0, none⟩) HU7.out (blk_ne HU7.out HV7.out (by decide)) _); have HG8 := Aside0.mk (show w8.heap[_]? = _ by rw [hw_]; exact blk_far (p := ⟨gr, 0, none⟩) HG7.out (blk_ne HG7.out HV7.out (by decide)) _); have HO8 := Aside0.mk (show w8.heap[_]? = _ by rw [hw_]; exact blk_far (p := ⟨gr, 0, none⟩) HO7.out (blk_ne HO7.out HV7.out (by decide)) _); have HM8 := Aside0.mk (show w8.heap[_]? = _ by rw [hw_]; exact blk_far (p := ⟨gr, 0, none⟩) HM7.out (blk_ne HM7.out HV7.out (by decide)) _); have HV8 := Aside0.mk (show w8.heap[gr]? = some (.cells #[(.slice (some ⟨R, 0, none⟩) 0 H)] 32 (0, 0)) by rw [hw_]; exact blk_put HV7.out 0 _ rfl); have HB8 := Aside0.mk (show Below w.heap.size w w8 by rw [hw_]; exact HB7.out.setCell (p := ⟨gr, 0, none⟩) Ggr.out _); clear hw_ HU7 HG7 HO7 HM7 HV7 HB7 c7 f7) | ((with_reducible refine gate_dst (N := 9) rfl ?_); refine box_event ?hg (N := 9) ?hd (cs := #[.nilFunc]) (t := 74) ?hr ?_; (case hd => rfl); (case hg => rfl); (case hr => first | (go_simp; done) | (go_simp; rfl)); intro gf hg_ w9 hh_ hb_; have Ggf := Aside0.mk (show w.heap.size ≤ gf by rw [hg_]; exact HB8.out.size); have HU9 := Aside0.mk (blk_below HU8.out hb_); have HG9 := Aside0.mk (blk_below HG8.out hb_); have HO9 := Aside0.mk (blk_below HO8.out hb_); have HM9 := Aside0.mk (blk_below HM8.out hb_); have HV9 := Aside0.mk (blk_below HV8.out hb_); have HF9 := Aside0.mk hh_; have HB9 := Aside0.mk (below_step HB8.out hb_); clear hg_ hh_ hb_ HU8 HG8 HO8 HM8 HV8; have c9 : w9.cell? ⟨gf, 0, none⟩ = some .nilFunc := (blk_cell HF9.out 0).trans rfl; have f9 := blk_frozen HF9.out 0) | ((with_reducible refine gate_store (t := 74) (p := 9) rfl ?_); refine store_event (t := 74) (p := 9) (v := .tmp 20) (w1 := w9.setCell ⟨gf, 0, none⟩ (.func (.func 46) #[] #[.pointer (some ⟨gr, 0, none⟩), .pointer (some ⟨gh, 0, none⟩), .pointer (some ⟨go, 0, none⟩), .pointer (some ⟨gu, 0, none⟩), .pointer (some ⟨gf, 0, none⟩)])) ?hg rfl ?hn ?hr ?_; (case hg => rfl); (case hn => rfl); (case hr => first | (go_simp; done) | (go_simp; rfl)); intro w10 hw_; have HU10 := Aside0.mk (show w10.heap[_]? = _ by rw [hw_]; exact blk_far (p := ⟨gf, 0, none⟩) HU9.out (blk_ne HU9.out HF9.out (by decide)) _); have HG10 := Aside0.mk (show w10.heap[_]? = _ by rw [hw_]; exact blk_far (p := ⟨gf, 0, none⟩) HG9.out (blk_ne HG9.out HF9.out (by decide)) _); have HO10 := Aside0.mk (show w10.heap[_]? = _ by rw [hw_]; exact blk_far (p := ⟨gf, 0, none⟩) HO9.out (blk_ne HO9.out HF9.out (by decide)) _); have HM10 := Aside0.mk (show w10.heap[_]? = _ by rw [hw_]; exact blk_far (p := ⟨gf, 0, none⟩) HM9.out (blk_ne HM9.out HF9.out (by decide)) _); have HV10 := Aside0.mk (show w10.heap[_]? = _ by rw [hw_]; exact blk_far (p := ⟨gf, 0, none⟩) HV9.out (blk_ne HV9.out HF9.out (by decide)) _); have HF10 := Aside0.mk (show w10.heap[gf]? = some (.cells #[(.func (.func 46) #[] #[.pointer (some ⟨gr, 0, none⟩), .pointer (some ⟨gh, 0, none⟩), .pointer (some ⟨go, 0, none⟩), .pointer (some ⟨gu, 0, none⟩), .pointer (some ⟨gf, 0, none⟩)])] 74 (0, 0)) by rw [hw_]; exact blk_put HF9.out 0 _ rfl); have HB10 := Aside0.mk (show Below w.heap.size w w10 by rw [hw_]; exact HB9.out.setCell (p := ⟨gf, 0, none⟩) Ggf.out _); clear hw_ HU9 HG9 HO9 HM9 HV9 HF9 HB9 c9 f9))
  obtain ⟨R, hR_⟩ : ∃ R, R = w5.heap.size := ⟨_, rfl⟩
  have GR := Aside0.mk (show w.heap.size ≤ R by rw [hR_]; exact HB5.out.size)
  rw [← hR_]
  obtain ⟨gr, hgr_⟩ : ∃ g, g = R + 1 := ⟨_, rfl⟩
  have Ggr := Aside0.mk (show w.heap.size ≤ gr by have := GR.out; omega)
  obtain ⟨gf, hgf_⟩ : ∃ g, g = R + 1 + 1 := ⟨_, rfl⟩
  rw [← hgf_, ← hgr_]
  obtain ⟨w10, hw_⟩ : ∃ W, W = ((w5.alloc (.cells (bls (List.replicate H false)).toArray 4)).alloc (.cells #[.slice (some ⟨R, 0, none⟩) 0 H] 32)).alloc (.cells #[.func (.func 46) #[] #[.pointer (some ⟨gr, 0, none⟩), .pointer (some ⟨gh, 0, none⟩), .pointer (some ⟨go, 0, none⟩), .pointer (some ⟨gu, 0, none⟩), .pointer (some ⟨gf, 0, none⟩)]] 74) := ⟨_, rfl⟩
  rw [← hw_]
  have hb_ : Below w5.heap.size w5 w10 := by rw [hw_]; exact below_alloc (below_alloc (below_alloc (Below.refl _ _) _) _) _
  have HU10 := Aside0.mk (blk_below HU5.out hb_)
  have HG10 := Aside0.mk (blk_below HG5.out hb_)
  have HO10 := Aside0.mk (blk_below HO5.out hb_)
  have HB10 := Aside0.mk (below_step HB5.out hb_)
  have HM10 := Aside0.mk (show w10.heap[R]? = some (.cells (bls (List.replicate H false)).toArray 4 (0, 0)) by rw [hw_, hR_]; exact blk_alloc (blk_alloc (blk_new _ _) _) _)
  have HV10 := Aside0.mk (show w10.heap[gr]? = some (.cells #[.slice (some ⟨R, 0, none⟩) 0 H] 32 (0, 0)) by rw [hw_, hgr_, hR_, show w5.heap.size + 1 = (w5.alloc (.cells (bls (List.replicate H false)).toArray 4)).heap.size by simp]; exact blk_alloc (blk_new _ _) _)
  have HF10 := Aside0.mk (show w10.heap[gf]? = some (.cells #[.func (.func 46) #[] #[.pointer (some ⟨gr, 0, none⟩), .pointer (some ⟨gh, 0, none⟩), .pointer (some ⟨go, 0, none⟩), .pointer (some ⟨gu, 0, none⟩), .pointer (some ⟨gf, 0, none⟩)]] 74 (0, 0)) by rw [hw_, show gf = ((w5.alloc (.cells (bls (List.replicate H false)).toArray 4)).alloc (.cells #[.slice (some ⟨R, 0, none⟩) 0 H] 32)).heap.size by simp; omega]; exact blk_new _ _)
  clear hb_ hw_ hgf_ hgr_ hR_ HU5 HG5 HO5 HB5 h5
  refine start_ (n := 4) (S := fun w' => w'.cell? ⟨gf, 0, none⟩ = some (.func (.func 46) #[] #[.pointer (some ⟨gr, 0, none⟩), .pointer (some ⟨gh, 0, none⟩), .pointer (some ⟨go, 0, none⟩), .pointer (some ⟨gu, 0, none⟩), .pointer (some ⟨gf, 0, none⟩)]) ∧ w'.cell? ⟨gu, 0, none⟩ = some (.int .i64 a0_0) ∧ w'.cell? ⟨gu, 1, none⟩ = some (.int .i64 a0_1) ∧ w'.cell? ⟨gu, 2, none⟩ = some (.slice A0_2 l0_2.length c0_2) ∧ w'.cell? ⟨gu, 3, none⟩ = some (.int .i64 a0_3) ∧ w'.cell? ⟨gu, 4, none⟩ = some (.int .i64 a0_4) ∧ w'.cell? ⟨gu, 5, none⟩ = some (.int .i64 a0_5) ∧ w'.cell? ⟨gu, 6, none⟩ = some (.int .i64 a0_6) ∧ w'.cell? ⟨gu, 7, none⟩ = some (.int .i64 a0_7) ∧ w'.cell? ⟨gu, 8, none⟩ = some (.int .i64 a0_8)) (ds := [3]) #[false, false, false, false] (by kernel_rfl) rfl rfl ⟨(blk_cell HF10.out 0).trans rfl, (blk_cell HU10.out 0).trans rfl, (blk_cell HU10.out 1).trans rfl, (blk_cell HU10.out 2).trans rfl, (blk_cell HU10.out 3).trans rfl, (blk_cell HU10.out 4).trans rfl, (blk_cell HU10.out 5).trans rfl, (blk_cell HU10.out 6).trans rfl, (blk_cell HU10.out 7).trans rfl, (blk_cell HU10.out 8).trans rfl⟩ (fun hHeld => ?_)
  refine take_ (i := 0) (N := some 21) (v := ?_) (a' := ?_) #[true, false, false, false] rfl rfl (by kernel_rfl) (fun _ _ _ h => h) (Or.inl ⟨by rfl, ?_⟩) hHeld ?_ ?_
  rotate_left
  · rintro w' ⟨s0, s1, s2, s3, s4, s5, s6, s7, s8, s9⟩
    go_simp
    with_reducible rfl
  rotate_left
  · simp only [Act.put, List.setIfInBounds_toArray, List.set_cons_zero, List.set_cons_succ, i64_w, i32_w]
    rfl
  refine take_ (i := 1) (N := some 22) (v := ?_) (a' := ?_) #[true, true, false, false] rfl rfl (by kernel_rfl) (fun _ _ _ h => h) (Or.inl ⟨by rfl, ?_⟩) hHeld ?_ ?_
  rotate_left
  · rintro w' ⟨s0, s1, s2, s3, s4, s5, s6, s7, s8, s9⟩
    go_simp
    with_reducible rfl
  rotate_left
  · simp only [Act.put, List.setIfInBounds_toArray, List.set_cons_zero, List.set_cons_succ, i64_w, i32_w]
    rfl
  refine one_ (i := 2) (N := some 23) #[true, true, true, false] rfl rfl (by kernel_rfl) (by decide) (fun K hK => ?_)
  refine goes_ Try.func23 (by kernel_rfl) rfl #[.agg #[.int .i64 a0_0, .int .i64 a0_1, .slice A0_2 l0_2.length c0_2, .int .i64 a0_3, .int .i64 a0_4, .int .i64 a0_5, .int .i64 a0_6, .int .i64 a0_7, .int .i64 a0_8]] (by rfl) rfl rfl (by simp only [List.map_toArray, List.map_cons, List.map_nil]; rfl) ?_
  with_reducible refine (unit_Initial.calls ki a0_0 a0_1 A0_2 c0_2 l0_2 a0_3 a0_4 a0_5 a0_6 a0_7 a0_8 s0 _ (Kd.C_below HR.out (below_drew HB10.out)) HC.out HKI.out).mono ?_
  rintro e w11 ⟨rfl, hb11⟩
  refine ⟨_, rfl, ?_⟩
  refine hK.out _ _ ⟨(pw_cell_below hb11 hHeld.1), (pw_cell_below hb11 hHeld.2.1), (pw_cell_below hb11 hHeld.2.2.1), (pw_cell_below hb11 hHeld.2.2.2.1), (pw_cell_below hb11 hHeld.2.2.2.2.1), (pw_cell_below hb11 hHeld.2.2.2.2.2.1), (pw_cell_below hb11 hHeld.2.2.2.2.2.2.1), (pw_cell_below hb11 hHeld.2.2.2.2.2.2.2.1), (pw_cell_below hb11 hHeld.2.2.2.2.2.2.2.2.1), (pw_cell_below hb11 hHeld.2.2.2.2.2.2.2.2.2)⟩ (fun hHeld => ?_)
  clear hK K
  refine norm_ (a' := ?_) ?_ ?_
  rotate_left
  · show Act.put _ (some 23) _ = _
    simp only [Act.put, List.setIfInBounds_toArray, List.set_cons_zero, List.set_cons_succ, i64_w, i32_w]
    rfl
  refine last_ (i := 3) (N := some 24) #[true, true, true, true] rfl rfl (by kernel_rfl) (by decide) (fun K hK => ?_)
  refine goesF_ Try.func46 (by kernel_rfl) rfl #[.int .i64 s0] (by rfl) rfl rfl (by rfl) (by simp only [List.map_toArray, List.map_cons, List.map_nil]; rfl) ?_
  have HJ := Aside0.mk (show SInv w w11 gu gh go gr gf R #[.int .i64 a0_0, .int .i64 a0_1, .slice A0_2 l0_2.length c0_2, .int .i64 a0_3, .int .i64 a0_4, .int .i64 a0_5, .int .i64 a0_6, .int .i64 a0_7, .int .i64 a0_8] H 0 (List.replicate H false) [] (.slice none 0 0) from (SInv.below ⟨HU10.out, HG10.out, HV10.out, HM10.out, HF10.out, HO10.out, Kd.S_nil _ _ _ _ _, HB10.out⟩ (below_step (below_drew (Below.refl w10.heap.size w10)) hb11)))
  refine (sched_from a0_0 a0_1 A0_2 c0_2 l0_2 a0_3 a0_4 a0_5 a0_6 a0_7 a0_8 HR.out HC.out HH.out Ggo.out Ggr.out GR.out H w11 (List.replicate H false) [] (.slice none 0 0) [] s0 HJ.out rfl (by simp) (by simp) (by have := HH.out; have : 2 ^ H ≤ 2 ^ 8 := Nat.pow_le_pow_right (by omega) this; simp; omega)).mono ?_
  rintro e w12 ⟨rfl, v12, all12, _, _, hj12, _⟩
  refine ⟨_, rfl, ?_⟩
  rw [List.nil_append] at hj12
  refine hK.out _ _ ?_
  clear hK K
  refine norm_ (a' := ?_) ?_ ?_
  rotate_left
  · show Act.put _ (some 24) _ = _
    simp only [Act.put, List.setIfInBounds_toArray, List.set_cons_zero, List.set_cons_succ, i64_w, i32_w]
    rfl
  refine done_ (by kernel_rfl) ?_
  have hr12 : w12.cell? ⟨go, 0, none⟩ = some v12 := (blk_cell hj12.o 0).trans rfl
  have HJ12 := Aside0.mk hj12
  obtain ⟨Av, cv, ev⟩ := Kd.S_slice hj12.s
  clear hj12
  subst ev
  go_wp2_with fail
  go_ret2
  exact ⟨_, rfl, Kd.S_mono HJ12.out.s (fun _ _ => trivial), HJ12.out.b⟩
set_option maxHeartbeats 8000000 in
set_option maxRecDepth 100000 in
theorem schedules_bad (a0_0 a0_1 : Int) (A0_2 : Option Addr) (c0_2 : Nat) (l0_2 : List S99) (a0_3 a0_4 a0_5 a0_6 a0_7 a0_8 a1 : Int) (w : World) (hr0_2 : Kd.C k99 w A0_2 l0_2.length l0_2) (hc0_2 : l0_2.length ≤ c0_2)
    (c r : Int) (hcf : checkF a0_0 a0_1 l0_2 a0_3 a0_4 a0_5 a0_6 a0_7 a0_8 6 = c) (hc : c ≠ 0 ∧ r = c ∨ c = 0 ∧ r = 1 ∧ inB a1 0 8 = false) :
    Calls Try.prog 19 #[.agg #[.int .i64 a0_0, .int .i64 a0_1, .slice A0_2 l0_2.length c0_2, .int .i64 a0_3, .int .i64 a0_4, .int .i64 a0_5, .int .i64 a0_6, .int .i64 a0_7, .int .i64 a0_8], .int .i64 a1] w fun e w' => e = .returned (.tuple #[.slice none 0 0, .int .i64 r]) ∧ Below w.heap.size w w' := by
  obtain ⟨kc, hkc⟩ := (check_f a0_0 a0_1 l0_2 a0_3 a0_4 a0_5 a0_6 a0_7 a0_8 6).some
  rw [hcf] at hkc
  clear hcf
  have HKC := Aside0.mk hkc
  have HR := Aside0.mk hr0_2
  have HC := Aside0.mk hc0_2
  have hu24 := Try.underlying24
  clear hkc hr0_2 hc0_2
  rcases hc with ⟨h0, rfl⟩ | ⟨rfl, rfl, hi⟩
  rotate_left
  · have HI := Aside0.mk hi
    clear hi
    go_enter Try.func19, Try.ntmps19
    go_wp2_with (first | ((with_reducible refine gate_dst (N := 2) rfl ?_); refine box_event ?hg (N := 2) ?hd (cs := #[.int .i64 a0_0, .int .i64 a0_1, .slice A0_2 l0_2.length c0_2, .int .i64 a0_3, .int .i64 a0_4, .int .i64 a0_5, .int .i64 a0_6, .int .i64 a0_7, .int .i64 a0_8]) (t := 24) ?hr ?_; (case hd => rfl); (case hg => rfl); (case hr => first | (go_simp; done) | (go_simp; rfl)); intro gu hgu w1 hU hb1; have HU := Aside0.mk hU; have HB := Aside0.mk hb1; have HGU := Aside0.mk (Nat.le_of_eq hgu.symm); clear hgu hU hb1) | ((with_reducible refine gate_dst (N := 3) rfl ?_); refine box_event ?hg (N := 3) ?hd (cs := #[.int .i64 a1]) (t := 3) ?hr ?_; (case hd => rfl); (case hg => rfl); (case hr => first | (go_simp; done) | (go_simp; rfl)); intro gh hgh w2 hh hb2; have HG2 := Aside0.mk hh; have HU2 := Aside0.mk (blk_below HU.out hb2); have HB2 := Aside0.mk (below_step HB.out hb2); clear hgh hh hb2 HU HB; have u0 := (blk_cell HU2.out 0).trans rfl; have u1 := (blk_cell HU2.out 1).trans rfl; have u2 := (blk_cell HU2.out 2).trans rfl; have u3 := (blk_cell HU2.out 3).trans rfl; have u4 := (blk_cell HU2.out 4).trans rfl; have u5 := (blk_cell HU2.out 5).trans rfl; have u6 := (blk_cell HU2.out 6).trans rfl; have u7 := (blk_cell HU2.out 7).trans rfl; have u8 := (blk_cell HU2.out 8).trans rfl))
    refine (unit_Check.calls kc a0_0 a0_1 A0_2 c0_2 l0_2 a0_3 a0_4 a0_5 a0_6 a0_7 a0_8 6 0 _ (Kd.C_below HR.out HB2.out) HC.out HKC.out).mono ?_
    rintro e w3 ⟨rfl, hb3⟩
    have HG3 := Aside0.mk (blk_below HG2.out hb3)
    have HB3 := Aside0.mk (below_step HB2.out hb3)
    clear hb3 HU2 HG2 HB2 u0 u1 u2 u3 u4 u5 u6 u7 u8
    have h3 : w3.cell? ⟨gh, 0, none⟩ = some (.int .i64 a1) := (blk_cell HG3.out 0).trans rfl
    go_wp2_with fail
    refine (unit_within_int.calls a1 0 8 false _ (by rw [within_f, HI.out])).mono ?_
    rintro e w4 ⟨rfl, hd4⟩
    have HB4 := Aside0.mk (below_step HB3.out hd4.below)
    clear hd4 HG3 HB3 h3
    go_wp2_with fail
    go_ret2
    exact ⟨rfl, HB4.out⟩
  · have e1 : (r == 0) = false := beq_eq_false_iff_ne.mpr h0
    have e2 : (r != 0) = true := bne_iff_ne.mpr h0
    clear h0
    go_enter Try.func19, Try.ntmps19
    go_wp2_with (first | ((with_reducible refine gate_dst (N := 2) rfl ?_); refine box_event ?hg (N := 2) ?hd (cs := #[.int .i64 a0_0, .int .i64 a0_1, .slice A0_2 l0_2.length c0_2, .int .i64 a0_3, .int .i64 a0_4, .int .i64 a0_5, .int .i64 a0_6, .int .i64 a0_7, .int .i64 a0_8]) (t := 24) ?hr ?_; (case hd => rfl); (case hg => rfl); (case hr => first | (go_simp; done) | (go_simp; rfl)); intro gu hgu w1 hU hb1; have HU := Aside0.mk hU; have HB := Aside0.mk hb1; have HGU := Aside0.mk (Nat.le_of_eq hgu.symm); clear hgu hU hb1) | ((with_reducible refine gate_dst (N := 3) rfl ?_); refine box_event ?hg (N := 3) ?hd (cs := #[.int .i64 a1]) (t := 3) ?hr ?_; (case hd => rfl); (case hg => rfl); (case hr => first | (go_simp; done) | (go_simp; rfl)); intro gh hgh w2 hh hb2; have HG2 := Aside0.mk hh; have HU2 := Aside0.mk (blk_below HU.out hb2); have HB2 := Aside0.mk (below_step HB.out hb2); clear hgh hh hb2 HU HB; have u0 := (blk_cell HU2.out 0).trans rfl; have u1 := (blk_cell HU2.out 1).trans rfl; have u2 := (blk_cell HU2.out 2).trans rfl; have u3 := (blk_cell HU2.out 3).trans rfl; have u4 := (blk_cell HU2.out 4).trans rfl; have u5 := (blk_cell HU2.out 5).trans rfl; have u6 := (blk_cell HU2.out 6).trans rfl; have u7 := (blk_cell HU2.out 7).trans rfl; have u8 := (blk_cell HU2.out 8).trans rfl))
    refine (unit_Check.calls kc a0_0 a0_1 A0_2 c0_2 l0_2 a0_3 a0_4 a0_5 a0_6 a0_7 a0_8 6 r _ (Kd.C_below HR.out HB2.out) HC.out HKC.out).mono ?_
    rintro e w3 ⟨rfl, hb3⟩
    have HB3 := Aside0.mk (below_step HB2.out hb3)
    clear hb3 HU2 HG2 HB2 u0 u1 u2 u3 u4 u5 u6 u7 u8
    go_wp2_with fail
    go_ret2
    exact ⟨rfl, HB3.out⟩
def unit_Schedules.f (a0_0 : Int) (a0_1 : Int) (l0_2 : List (S99)) (a0_3 : Int) (a0_4 : Int) (a0_5 : Int) (a0_6 : Int) (a0_7 : Int) (a0_8 : Int) (a1 : Int) : Option (List (List Bool) × Int) := some (schedF a0_0 a0_1 l0_2 a0_3 a0_4 a0_5 a0_6 a0_7 a0_8 a1)
theorem unit_Schedules.calls (a0_0 : Int) (a0_1 : Int) (A0_2 : Option Addr) (c0_2 : Nat) (l0_2 : List (S99)) (a0_3 : Int) (a0_4 : Int) (a0_5 : Int) (a0_6 : Int) (a0_7 : Int) (a0_8 : Int) (a1 : Int) (r1 : List (List Bool)) (r2 : Int) (w : World) (hr0_2 : Kd.C k99 w A0_2 l0_2.length l0_2) (hc0_2 : l0_2.length ≤ c0_2) (h : unit_Schedules.f a0_0 a0_1 l0_2 a0_3 a0_4 a0_5 a0_6 a0_7 a0_8 a1 = some (r1, r2)) :
    Calls Try.prog 19 #[.agg #[.int .i64 a0_0, .int .i64 a0_1, .slice A0_2 l0_2.length c0_2, .int .i64 a0_3, .int .i64 a0_4, .int .i64 a0_5, .int .i64 a0_6, .int .i64 a0_7, .int .i64 a0_8], .int .i64 a1] w fun e w' => ∃ v0_ : Value, e = .returned (.tuple #[v0_, .int .i64 r2]) ∧ Kd.S (Kd.slice 4 Kd.bool) 32 w' w.heap.size (fun _ => True) v0_ r1 ∧ Below w.heap.size w w' := by
  have h := Option.some.inj h
  unfold schedF at h
  by_cases hc : checkF a0_0 a0_1 l0_2 a0_3 a0_4 a0_5 a0_6 a0_7 a0_8 6 = 0
  · rw [if_pos hc] at h
    by_cases hi : inB a1 0 8 = true
    · rw [if_pos hi] at h
      obtain ⟨rfl, rfl⟩ := Prod.mk.inj h
      have hb : 0 ≤ a1 ∧ a1 ≤ 8 := by simpa [inB] using hi
      obtain ⟨H, rfl⟩ := Int.eq_ofNat_of_zero_le hb.1
      rw [show ((H : Int)).toNat = H from rfl]
      exact schedules_ok a0_0 a0_1 A0_2 c0_2 l0_2 a0_3 a0_4 a0_5 a0_6 a0_7 a0_8 H w hr0_2 hc0_2 hc (by omega)
    · rw [if_neg hi] at h
      obtain ⟨rfl, rfl⟩ := Prod.mk.inj h
      refine (schedules_bad a0_0 a0_1 A0_2 c0_2 l0_2 a0_3 a0_4 a0_5 a0_6 a0_7 a0_8 a1 w hr0_2 hc0_2 _ 1 hc (.inr ⟨rfl, rfl, by simpa using hi⟩)).mono ?_
      rintro e w' ⟨rfl, hb⟩
      exact ⟨_, rfl, Kd.S_nil _ _ _ _ _, hb⟩
  · rw [if_neg hc] at h
    obtain ⟨rfl, rfl⟩ := Prod.mk.inj h
    refine (schedules_bad a0_0 a0_1 A0_2 c0_2 l0_2 a0_3 a0_4 a0_5 a0_6 a0_7 a0_8 a1 w hr0_2 hc0_2 _ _ rfl (.inl ⟨hc, rfl⟩)).mono ?_
    rintro e w' ⟨rfl, hb⟩
    exact ⟨_, rfl, Kd.S_nil _ _ _ _ _, hb⟩
end Go.Proofs.Ytelklgdmhnkenaa.U
/- Rows of hours that are written in place: that they stay rows of hours of the same lengths, in blocks of their own. -/
namespace Go.Proofs.Ytelklgdmhnkenaa.U
open Go.RowKit Go.Proofs.YtelklgdmhnkenaaW.PrintWords Go.Proofs.YtelklgdmhnkenaaW.PrintLast Go.Proofs.YtelklgdmhnkenaaW.PrintMore
set_option linter.unusedVariables false
/-- The row at A of n hours: cells of a block from B on that is not the block g. -/
def HourRow (W : World) (B g : Nat) (A : Option Addr) (n : Nat) : Prop :=
  0 < n → ∃ gi ci, A = some ⟨gi, 0, none⟩ ∧ B ≤ gi ∧ gi ≠ g ∧ W.heap[gi]? = some (.cells ci 4 (0, 0)) ∧ ∀ k, k < n → ∃ b, ci[k]? = some (.bool b)
/-- The rows at the block g are of the lengths of ts. -/
def Flip (W : World) (B : Nat) (v : Value) (ts : List (List Bool)) : Prop :=
  ∃ A co, v = .slice A ts.length co ∧ ∀ i, i < ts.length → ∃ g cur, A = some ⟨g, 0, none⟩ ∧ B ≤ g ∧ W.heap[g]? = some (.cells cur 32 (0, 0)) ∧
    ∃ Ai c, cur[i]? = some (.slice Ai (ts.getD i []).length c) ∧ (ts.getD i []).length ≤ c ∧ HourRow W B g Ai (ts.getD i []).length
theorem HourRow.step {W W1 : World} {B g n : Nat} {A : Option Addr} (h : HourRow W B g A n) (he : ∀ k, B ≤ k → k < W.heap.size → W1.heap[k]? = W.heap[k]?) : HourRow W1 B g A n := fun hn => by
  obtain ⟨gi, ci, e, hB, hg, hh, hc⟩ := h hn
  exact ⟨gi, ci, e, hB, hg, (he gi hB (blk_lt hh)).trans hh, hc⟩
theorem Flip.step {W W1 : World} {B : Nat} {v : Value} {ts : List (List Bool)} (h : Flip W B v ts) (he : ∀ k, B ≤ k → k < W.heap.size → W1.heap[k]? = W.heap[k]?) : Flip W1 B v ts := by
  obtain ⟨A, co, e, hi⟩ := h
  refine ⟨A, co, e, fun i hlt => ?_⟩
  obtain ⟨g, cur, eA, hB, hh, Ai, c, hc, hl, hr⟩ := hi i hlt
  exact ⟨g, cur, eA, hB, (he g hB (blk_lt hh)).trans hh, Ai, c, hc, hl, hr.step he⟩
theorem Flip.below {W W1 : World} {B : Nat} {v : Value} {ts : List (List Bool)} (h : Flip W B v ts) (hb : Below W.heap.size W W1) : Flip W1 B v ts := h.step (fun k _ hk => hb.block k hk)
theorem Flip.drew {W : World} {B : Nat} {v : Value} {ts : List (List Bool)} (h : Flip W B v ts) : Flip W.drew B v ts := h.step (fun _ _ _ => rfl)
theorem Flip.drewN {W : World} {B n : Nat} {v : Value} {ts : List (List Bool)} (h : Flip W B v ts) : Flip (W.drewN n) B v ts := h.below (by repeat (first | (with_reducible first | exact Below.refl _ _ | apply pw_below_drewN)))
theorem flip_slice {W : World} {B : Nat} {v : Value} {ts : List (List Bool)} (h : Flip W B v ts) : ∃ A co, v = .slice A ts.length co := by
  obtain ⟨A, co, e, _⟩ := h
  exact ⟨A, co, e⟩
theorem getD_rd (ts : List (List Bool)) (i : Int) : ts.getD i.toNat [] = rd_L5 ts i := rfl
/-- Reading a row's head. -/
theorem flip_row {W : World} {B n co : Nat} {A : Option Addr} {ts : List (List Bool)} (h : Flip W B (.slice A n co) ts) (i : Int) (h0 : 0 ≤ i) (h1 : i < ts.length) :
    ∃ g Ai c, A = some ⟨g, 0, none⟩ ∧ B ≤ g ∧ W.cell? ⟨g, i.toNat, none⟩ = some (.slice Ai (rd_L5 ts i).length c) ∧ (rd_L5 ts i).length ≤ c ∧ HourRow W B g Ai (rd_L5 ts i).length := by
  obtain ⟨A', co', e, hi⟩ := h
  injection e with e1 e2 e3
  subst e1
  obtain ⟨g, cur, eA, hB, hh, Ai, c, hc, hl, hr⟩ := hi i.toNat (by omega)
  exact ⟨g, Ai, c, eA, hB, (blk_cell hh _).trans hc, hl, hr⟩
theorem hour_cell {W : World} {B g n : Nat} {A : Option Addr} (h : HourRow W B g A n) (k : Int) (h0 : 0 ≤ k) (h1 : k < n) : ∃ gi b, A = some ⟨gi, 0, none⟩ ∧ B ≤ gi ∧ W.cell? ⟨gi, k.toNat, none⟩ = some (.bool b) ∧ W.frozen? ⟨gi, k.toNat, none⟩ = false := by
  obtain ⟨gi, ci, e, hB, hg, hh, hc⟩ := h (by omega)
  obtain ⟨b, hb⟩ := hc k.toNat (by omega)
  exact ⟨gi, b, e, hB, (blk_cell hh _).trans hb, blk_frozen hh _⟩
theorem HourRow.put {W : World} {B g n : Nat} {A : Option Addr} (h : HourRow W B g A n) (gi k : Nat) (b : Bool) : HourRow (W.setCell ⟨gi, k, none⟩ (.bool b)) B g A n := fun hn => by
  obtain ⟨gj, ci, e, hB, hg, hh, hc⟩ := h hn
  by_cases hj : gj = gi
  · subst hj
    refine ⟨gj, ci.setIfInBounds k (.bool b), e, hB, hg, blk_set hh k _, fun m hm => ?_⟩
    obtain ⟨b0, hb0⟩ := hc m hm
    by_cases hk : k = m
    · subst hk
      exact ⟨b, by rw [Array.getElem?_setIfInBounds_self_of_lt (Array.getElem?_eq_some_iff.1 hb0).1]⟩
    · exact ⟨b0, by rw [Array.getElem?_setIfInBounds_ne hk]; exact hb0⟩
  · exact ⟨gj, ci, e, hB, hg, blk_far (p := ⟨gi, k, none⟩) hh hj _, hc⟩
/-- An hour is turned. -/
theorem flip_put {W : World} {B n co : Nat} {A : Option Addr} {ts : List (List Bool)} (h : Flip W B (.slice A n co) ts) (i : Int) (h0 : 0 ≤ i) (h1 : i < ts.length) (m : Int) (hm0 : 0 ≤ m) (hm : m < ((rd_L5 ts i).length : Int)) {g gi c nn : Nat} (eg : A = some ⟨g, 0, none⟩)
    (hx : W.cell? ⟨g, i.toNat, none⟩ = some (.slice (some ⟨gi, 0, none⟩) nn c)) (k : Nat) (b : Bool) : Flip (W.setCell ⟨gi, k, none⟩ (.bool b)) B (.slice A n co) ts := by
  have h' := h
  obtain ⟨A', co', e, hi⟩ := h
  have hne : gi ≠ g := by
    injection e with e1 e2 e3
    subst e1
    obtain ⟨g', cur, eA, hB, hh, Ai, c', hc, hl, hr⟩ := hi i.toNat (by omega)
    rw [eg] at eA
    have eg' : g = g' := by simpa using eA
    subst eg'
    have hx2 := (blk_cell hh i.toNat).symm.trans hx
    rw [hc] at hx2
    have hx3 := Option.some.inj hx2
    injection hx3 with a1 a2 a3
    have hr' := hr
    obtain ⟨gj, ci, e5, _, hg5, _⟩ := hr' (by
      have : (ts.getD i.toNat []).length = (rd_L5 ts i).length := rfl
      omega)
    rw [a1] at e5
    have : gi = gj := by simpa using e5
    subst this
    exact hg5
  refine ⟨A', co', e, fun j hj => ?_⟩
  obtain ⟨g', cur, eA, hB, hh, Ai, c', hc, hl, hr⟩ := hi j hj
  have hgg : g = g' := by
    injection e with e1 e2 e3
    subst e1
    rw [eg] at eA
    simpa using eA
  subst hgg
  exact ⟨g, cur, eA, hB, blk_far (p := ⟨gi, k, none⟩) hh (fun e => hne e.symm) _, Ai, c', hc, hl, hr.put gi k b⟩
/-- Rows that a call has made. -/
theorem flip_of {W : World} {B : Nat} {ok : Nat → Prop} {v : Value} {ts : List (List Bool)} (h : Kd.S (Kd.slice 4 Kd.bool) 32 W B ok v ts) : Flip W B v ts := by
  have hR := Kd.S_R h
  obtain ⟨A, co, e, _⟩ := Kd.S_reads h
  subst e
  refine ⟨A, co, rfl, fun i hlt => ?_⟩
  obtain ⟨g, cap, e, hB, hg, cur, hh⟩ := Kd.R_form hR (by omega)
  injection e with e1 e2 e3
  subst e1
  obtain ⟨c, hcl, hM, hcc⟩ := Kd.R_get hR [] (i : Int) (by omega) (by omega)
  obtain ⟨vi, rfl, hri⟩ := hM
  have hc0 := hcc 0 vi rfl
  rw [Nat.add_zero, show (Kd.slice 4 Kd.bool).sz = 1 from rfl, Nat.mul_one, Int.toNat_natCast] at hc0
  have ea : (Addr.add ⟨g, 0, none⟩ i) = ⟨g, i, none⟩ := by simp [Addr.add]; try omega
  rw [ea, blk_cell hh] at hc0
  rw [Int.toNat_natCast] at hri
  obtain ⟨Ai, ci, ei, hli⟩ := Kd.R_reads hri
  subst ei
  refine ⟨g, cur, rfl, hB, hh, Ai, ci, hc0, hli.1, fun hn => ?_⟩
  obtain ⟨gi, capi, ei, hBi, hgi, curi, hhi⟩ := Kd.R_form hri hn
  injection ei with f1 f2 f3
  subst f1
  refine ⟨gi, curi, rfl, hBi, fun e => ?_, hhi, fun k hk => ?_⟩
  · have := hri.1 gi rfl
    exact this.2 (by rw [e]; rfl)
  · have hcell := (Kd.R_celln false hri (k : Int) (by omega) (by omega)).1
    rw [Int.toNat_natCast, blk_cell hhi] at hcell
    exact ⟨_, hcell⟩
end Go.Proofs.Ytelklgdmhnkenaa.U
/- Lean functions with the answers of Go functions, and proofs that the calls come to these answers (lines by a program of this session, wip/patch_print.py, over the kit's print tool). -/
namespace Go.Proofs.Ytelklgdmhnkenaa.U
open Go.RowKit Go.Proofs.YtelklgdmhnkenaaW.PrintWords Go.Proofs.YtelklgdmhnkenaaW.PrintLast Go.Proofs.YtelklgdmhnkenaaW.PrintMore
attribute [local go_sem] max2_int min2_int max_two min_two max_three min_three max_four min_four   -- for this text's walks alone
set_option linter.unusedVariables false
set_option linter.unusedSimpArgs false

/-! ### unit_Feasible: function 22 -/
def unit_Feasible.l0 : Nat → Int → List Bool → Int → Int → Int → Int → List (S99) → Int → Int → Int → Int → Int → Int → Option (Bool)
  | 0, _, _, _, _, _, _, _, _, _, _, _, _, _ => none
  | k + 1, x5, x14, x15, x16, x136000, x136001, x136002, x136003, x136004, x136005, x136006, x136007, x136008 => if x16 < x15 then (if 0 ≤ x16 then (if x16 < (x14.length : Int) then ((unit_next.f k x136000 x136001 x136002 x136003 x136004 x136005 x136006 x136007 x136008 x5 (rdOf false x14 x16)).bind fun bt139 => (if bt139.2 = true then (unit_Feasible.l0 k bt139.1 x14 x15 (wrap64 (x16 + 1)) x136000 x136001 x136002 x136003 x136004 x136005 x136006 x136007 x136008) else (some false))) else (none)) else (none)) else (some true)
def unit_Feasible.f (k : Nat) (a0_0 : Int) (a0_1 : Int) (l0_2 : List (S99)) (a0_3 : Int) (a0_4 : Int) (a0_5 : Int) (a0_6 : Int) (a0_7 : Int) (a0_8 : Int) (l1 : List Bool) : Option (Bool) := (unit_may.f k a0_0 a0_1 l0_2 a0_3 a0_4 a0_5 a0_6 a0_7 a0_8).bind fun t136 => (if t136 = true then ((unit_Initial.f k a0_0 a0_1 l0_2 a0_3 a0_4 a0_5 a0_6 a0_7 a0_8).bind fun t137 => (unit_Feasible.l0 k t137 l1 (l1.length : Int) 0 a0_0 a0_1 l0_2 a0_3 a0_4 a0_5 a0_6 a0_7 a0_8)) else (some false))
set_option maxHeartbeats 8000000 in
set_option maxRecDepth 100000 in
theorem unit_Feasible.calls (k : Nat) (a0_0 : Int) (a0_1 : Int) (A0_2 : Option Addr) (c0_2 : Nat) (l0_2 : List (S99)) (a0_3 : Int) (a0_4 : Int) (a0_5 : Int) (a0_6 : Int) (a0_7 : Int) (a0_8 : Int) (A1 : Option Addr) (c1 : Nat) (l1 : List Bool) (r : Bool) (w : World) (hr0_2 : Kd.C k99 w A0_2 l0_2.length l0_2) (hc0_2 : l0_2.length ≤ c0_2) (hr1 : Kd.C Kd.bool w A1 l1.length l1) (hc1 : l1.length ≤ c1) (h : unit_Feasible.f k a0_0 a0_1 l0_2 a0_3 a0_4 a0_5 a0_6 a0_7 a0_8 l1 = some r) :
    Calls Try.prog 22 #[.agg #[.int .i64 a0_0, .int .i64 a0_1, .slice A0_2 l0_2.length c0_2, .int .i64 a0_3, .int .i64 a0_4, .int .i64 a0_5, .int .i64 a0_6, .int .i64 a0_7, .int .i64 a0_8], .slice A1 l1.length c1] w fun e w' => e = .returned (.bool r) ∧ Below w.heap.size w w' := by
  have hu24 := Try.underlying24
  have HR0_2 := Aside0.mk hr0_2
  have HC0_2 := Aside0.mk hc0_2
  clear hr0_2 hc0_2
  have HR1 := Aside0.mk hr1
  have HC1 := Aside0.mk hc1
  clear hr1 hc1
  have HB := Aside0.mk (Below.refl w.heap.size w)
  have H : ((unit_may.f k a0_0 a0_1 l0_2 a0_3 a0_4 a0_5 a0_6 a0_7 a0_8).bind fun t136 => (if t136 = true then ((unit_Initial.f k a0_0 a0_1 l0_2 a0_3 a0_4 a0_5 a0_6 a0_7 a0_8).bind fun t137 => (unit_Feasible.l0 k t137 l1 (l1.length : Int) 0 a0_0 a0_1 l0_2 a0_3 a0_4 a0_5 a0_6 a0_7 a0_8)) else (some false))) = some r := h
  clear h
  replace H := Option.bind_eq_some_iff.mp H
  obtain ⟨t136, A30, H⟩ := H
  replace H : (if t136 = true then ((unit_Initial.f k a0_0 a0_1 l0_2 a0_3 a0_4 a0_5 a0_6 a0_7 a0_8).bind fun t137 => (unit_Feasible.l0 k t137 l1 (l1.length : Int) 0 a0_0 a0_1 l0_2 a0_3 a0_4 a0_5 a0_6 a0_7 a0_8)) else (some false)) = some r := H
  have A3 := Aside0.mk A30
  clear A30
  by_cases c4 : t136 = true
  · subst c4
    have H1 : ((unit_Initial.f k a0_0 a0_1 l0_2 a0_3 a0_4 a0_5 a0_6 a0_7 a0_8).bind fun t137 => (unit_Feasible.l0 k t137 l1 (l1.length : Int) 0 a0_0 a0_1 l0_2 a0_3 a0_4 a0_5 a0_6 a0_7 a0_8)) = some r := by rw [if_pos rfl] at H; exact H
    clear H
    have H := H1
    clear H1
    replace H := Option.bind_eq_some_iff.mp H
    obtain ⟨t137, A50, H⟩ := H
    replace H : (unit_Feasible.l0 k t137 l1 (l1.length : Int) 0 a0_0 a0_1 l0_2 a0_3 a0_4 a0_5 a0_6 a0_7 a0_8) = some r := H
    have A5 := Aside0.mk A50
    clear A50
    have H' := Aside0.mk H
    clear H
    go_enter Try.func22, Try.ntmps22
    go_wp2_with (first | ((with_reducible refine gate_dst (N := 2) rfl ?_); refine box_event ?hg (N := 2) ?hd (cs := #[.int .i64 a0_0, .int .i64 a0_1, .slice A0_2 l0_2.length c0_2, .int .i64 a0_3, .int .i64 a0_4, .int .i64 a0_5, .int .i64 a0_6, .int .i64 a0_7, .int .i64 a0_8]) (t := 24) ?hr ?_; (case hd => rfl); (case hg => rfl); (case hr => first | (go_simp; done) | (go_simp; rfl)); intro gb135 hg w6 hbox hb; have n0_ := Aside0.mk (below_step (by repeat (first | (with_reducible first | exact HB.out | apply below_alloc | apply pw_below_drewN | apply below_drew1) | exact HB.out)) hb); have n1_ := Aside0.mk (hbox); have n2_ := Aside0.mk ((by rw [hg]; exact (below_size (by repeat (first | (with_reducible first | exact HB.out | apply below_alloc | apply pw_below_drewN | apply below_drew1) | exact HB.out))) : w.heap.size ≤ gb135)); have n3_ := Aside0.mk ((by rw [hg]; exact (below_size (by repeat (first | (with_reducible first | exact HB.out | apply below_alloc | apply pw_below_drewN | apply below_drew1) | exact HB.out))) : w.heap.size ≤ gb135)); clear HB; have HB := n0_; have BK135 := n1_; have GW135 := n2_; have GE135 := n3_; clear n0_ n1_ n2_ n3_; clear hb hbox hg; have hcz7_0 : w6.cell? ⟨gb135, 0, none⟩ = some (.int .i64 a0_0) := (blk_cell BK135.out 0).trans rfl; have hcz7_1 : w6.cell? ⟨gb135, 1, none⟩ = some (.int .i64 a0_1) := (blk_cell BK135.out 1).trans rfl; have hcz7_2 : w6.cell? ⟨gb135, 2, none⟩ = some (.slice A0_2 l0_2.length c0_2) := (blk_cell BK135.out 2).trans rfl; have hcz7_3 : w6.cell? ⟨gb135, 3, none⟩ = some (.int .i64 a0_3) := (blk_cell BK135.out 3).trans rfl; have hcz7_4 : w6.cell? ⟨gb135, 4, none⟩ = some (.int .i64 a0_4) := (blk_cell BK135.out 4).trans rfl; have hcz7_5 : w6.cell? ⟨gb135, 5, none⟩ = some (.int .i64 a0_5) := (blk_cell BK135.out 5).trans rfl; have hcz7_6 : w6.cell? ⟨gb135, 6, none⟩ = some (.int .i64 a0_6) := (blk_cell BK135.out 6).trans rfl; have hcz7_7 : w6.cell? ⟨gb135, 7, none⟩ = some (.int .i64 a0_7) := (blk_cell BK135.out 7).trans rfl; have hcz7_8 : w6.cell? ⟨gb135, 8, none⟩ = some (.int .i64 a0_8) := (blk_cell BK135.out 8).trans rfl; have hfz7_0 := blk_frozen BK135.out 0; have hfz7_1 := blk_frozen BK135.out 1; have hfz7_2 := blk_frozen BK135.out 2; have hfz7_3 := blk_frozen BK135.out 3; have hfz7_4 := blk_frozen BK135.out 4; have hfz7_5 := blk_frozen BK135.out 5; have hfz7_6 := blk_frozen BK135.out 6; have hfz7_7 := blk_frozen BK135.out 7; have hfz7_8 := blk_frozen BK135.out 8) | ((with_reducible refine gate_callee (f := 49) rfl ?_); refine goesL_ (some 10) rfl rfl Try.func49 (by kernel_rfl) rfl #[.agg #[.int .i64 a0_0, .int .i64 a0_1, .slice A0_2 l0_2.length c0_2, .int .i64 a0_3, .int .i64 a0_4, .int .i64 a0_5, .int .i64 a0_6, .int .i64 a0_7, .int .i64 a0_8]] rfl (by (try simp only [List.map_toArray, List.map_cons, List.map_nil]); first | done | rfl | (simp only [List.length_drop, List.length_take]; rfl)) ?_; (with_reducible refine (unit_may.calls k a0_0 a0_1 _ _ l0_2 a0_3 a0_4 a0_5 a0_6 a0_7 a0_8 true _ ?side1 ?side2 A3.out).mono ?_); (case side1 => repeat (first | exact (Kd.C_below HR0_2.out HB.out) | (with_reducible refine Kd.C_alloc ?_ _) | (with_reducible refine Kd.C_drewN ?_ _) | (with_reducible refine Kd.C_drew ?_))); (case side2 => exact HC0_2.out); rintro e w8 ⟨rfl, hb⟩; refine ⟨_, rfl, ?_⟩; have n0_ := Aside0.mk (blk_below (g := gb135) (o := .cells #[.int .i64 a0_0, .int .i64 a0_1, .slice A0_2 l0_2.length c0_2, .int .i64 a0_3, .int .i64 a0_4, .int .i64 a0_5, .int .i64 a0_6, .int .i64 a0_7, .int .i64 a0_8] 24 (0, 0)) (by (with_reducible repeat (first | refine blk_drewN ?_ _ | refine blk_drew ?_ | refine blk_alloc ?_ _)); exact BK135.out) hb); have n1_ := Aside0.mk (below_step (by repeat (first | (with_reducible first | exact HB.out | apply below_alloc | apply pw_below_drewN | apply below_drew1 | refine below_set ?_ GE135.out) | exact HB.out)) hb); clear BK135; clear HB; have BK135 := n0_; have HB := n1_; clear n0_ n1_; (try clear hb); (try clear hb2); (try clear hk); (try clear hi); have hcz9_0 : w8.cell? ⟨gb135, 0, none⟩ = some (.int .i64 a0_0) := (blk_cell BK135.out 0).trans rfl; have hcz9_1 : w8.cell? ⟨gb135, 1, none⟩ = some (.int .i64 a0_1) := (blk_cell BK135.out 1).trans rfl; have hcz9_2 : w8.cell? ⟨gb135, 2, none⟩ = some (.slice A0_2 l0_2.length c0_2) := (blk_cell BK135.out 2).trans rfl; have hcz9_3 : w8.cell? ⟨gb135, 3, none⟩ = some (.int .i64 a0_3) := (blk_cell BK135.out 3).trans rfl; have hcz9_4 : w8.cell? ⟨gb135, 4, none⟩ = some (.int .i64 a0_4) := (blk_cell BK135.out 4).trans rfl; have hcz9_5 : w8.cell? ⟨gb135, 5, none⟩ = some (.int .i64 a0_5) := (blk_cell BK135.out 5).trans rfl; have hcz9_6 : w8.cell? ⟨gb135, 6, none⟩ = some (.int .i64 a0_6) := (blk_cell BK135.out 6).trans rfl; have hcz9_7 : w8.cell? ⟨gb135, 7, none⟩ = some (.int .i64 a0_7) := (blk_cell BK135.out 7).trans rfl; have hcz9_8 : w8.cell? ⟨gb135, 8, none⟩ = some (.int .i64 a0_8) := (blk_cell BK135.out 8).trans rfl; have hfz9_0 := blk_frozen BK135.out 0; have hfz9_1 := blk_frozen BK135.out 1; have hfz9_2 := blk_frozen BK135.out 2; have hfz9_3 := blk_frozen BK135.out 3; have hfz9_4 := blk_frozen BK135.out 4; have hfz9_5 := blk_frozen BK135.out 5; have hfz9_6 := blk_frozen BK135.out 6; have hfz9_7 := blk_frozen BK135.out 7; have hfz9_8 := blk_frozen BK135.out 8) | ((with_reducible refine gate_callee (f := 23) rfl ?_); refine goesL_ (some 13) rfl rfl Try.func23 (by kernel_rfl) rfl #[.agg #[.int .i64 a0_0, .int .i64 a0_1, .slice A0_2 l0_2.length c0_2, .int .i64 a0_3, .int .i64 a0_4, .int .i64 a0_5, .int .i64 a0_6, .int .i64 a0_7, .int .i64 a0_8]] rfl (by (try simp only [List.map_toArray, List.map_cons, List.map_nil]); first | done | rfl | (simp only [List.length_drop, List.length_take]; rfl)) ?_; (with_reducible refine (unit_Initial.calls k a0_0 a0_1 _ _ l0_2 a0_3 a0_4 a0_5 a0_6 a0_7 a0_8 t137 _ ?side1 ?side2 A5.out).mono ?_); (case side1 => repeat (first | exact (Kd.C_below HR0_2.out HB.out) | (with_reducible refine Kd.C_alloc ?_ _) | (with_reducible refine Kd.C_drewN ?_ _) | (with_reducible refine Kd.C_drew ?_))); (case side2 => exact HC0_2.out); rintro e w10 ⟨rfl, hb⟩; refine ⟨_, rfl, ?_⟩; have n0_ := Aside0.mk (blk_below (g := gb135) (o := .cells #[.int .i64 a0_0, .int .i64 a0_1, .slice A0_2 l0_2.length c0_2, .int .i64 a0_3, .int .i64 a0_4, .int .i64 a0_5, .int .i64 a0_6, .int .i64 a0_7, .int .i64 a0_8] 24 (0, 0)) (by (with_reducible repeat (first | refine blk_drewN ?_ _ | refine blk_drew ?_ | refine blk_alloc ?_ _)); exact BK135.out) hb); have n1_ := Aside0.mk (below_step (by repeat (first | (with_reducible first | exact HB.out | apply below_alloc | apply pw_below_drewN | apply below_drew1 | refine below_set ?_ GE135.out) | exact HB.out)) hb); clear BK135; clear HB; have BK135 := n0_; have HB := n1_; clear n0_ n1_; (try clear hb); (try clear hb2); (try clear hk); (try clear hi)))
    go_loopg [5, 16] k (fun kq v5 v16 w' => ∃ (x5_1 : Int) (x16_1 : Int), v5 = .int .i64 x5_1 ∧ v16 = .int .i64 x16_1 ∧ Aside0 (unit_Feasible.l0 kq x5_1 l1 (l1.length : Int) x16_1 a0_0 a0_1 l0_2 a0_3 a0_4 a0_5 a0_6 a0_7 a0_8 = some r) ∧ Aside0 (kq ≤ k) ∧ Aside0 (w'.heap[gb135]? = some (.cells #[.int .i64 a0_0, .int .i64 a0_1, (.slice A0_2 l0_2.length c0_2), .int .i64 a0_3, .int .i64 a0_4, .int .i64 a0_5, .int .i64 a0_6, .int .i64 a0_7, .int .i64 a0_8] 24 (0, 0))) ∧ Aside0 (Below w.heap.size w w'))
    case atStart => exact ⟨(t137), (0), (by first | rfl | (simp; done) | (simp [*]; done)), (by first | rfl | (simp; done) | (simp [*]; done)), H', ⟨Nat.le_refl _⟩, ⟨by (with_reducible repeat (first | refine blk_drewN ?_ _ | refine blk_drew ?_ | refine blk_alloc ?_ _)); exact BK135.out⟩, ⟨by repeat (first | (with_reducible first | exact HB.out | apply below_alloc | apply pw_below_drewN | apply below_drew1 | refine below_set ?_ GE135.out) | exact HB.out)⟩⟩
    case round =>
      clear H'
      try clear c1; try clear c2; try clear p2; try clear c4; try clear hcz7_0; try clear hcz7_1; try clear hcz7_2; try clear hcz7_3; try clear hcz7_4; try clear hcz7_5; try clear hcz7_6; try clear hcz7_7; try clear hcz7_8; try clear hcz9_0; try clear hcz9_1; try clear hcz9_2; try clear hcz9_3; try clear hcz9_4; try clear hcz9_5; try clear hcz9_6; try clear hcz9_7; try clear hcz9_8; try clear hfz7_0; try clear hfz7_1; try clear hfz7_2; try clear hfz7_3; try clear hfz7_4; try clear hfz7_5; try clear hfz7_6; try clear hfz7_7; try clear hfz7_8; try clear hfz9_0; try clear hfz9_1; try clear hfz9_2; try clear hfz9_3; try clear hfz9_4; try clear hfz9_5; try clear hfz9_6; try clear hfz9_7; try clear hfz9_8
      obtain ⟨x5_1, x16_1, rfl, rfl, HA, HK1, BK135, HB⟩ := hrel
      cases gk with
      | zero => exact absurd HA.out (by simp [unit_Feasible.l0])
      | succ k1 =>
        have H := HA.out
        clear HA
        simp only [unit_Feasible.l0] at H
        by_cases c11 : x16_1 < (l1.length : Int)
        · rw [if_pos c11] at H
          have c11b0 : decide (x16_1 < (l1.length : Int)) = true := decide_eq_true c11
          clear c11
          by_cases c12 : 0 ≤ x16_1
          · rw [if_pos c12] at H
            have c12b0 : decide (0 ≤ x16_1) = true := decide_eq_true c12
            clear c12
            by_cases c13 : x16_1 < (l1.length : Int)
            · rw [if_pos c13] at H
              have c13b0 : decide (x16_1 < (l1.length : Int)) = true := decide_eq_true c13
              clear c13
              replace H := Option.bind_eq_some_iff.mp H
              obtain ⟨⟨t139, t140⟩, A140, H⟩ := H
              replace H : (if t140 = true then (unit_Feasible.l0 k1 t139 l1 (l1.length : Int) (wrap64 (x16_1 + 1)) a0_0 a0_1 l0_2 a0_3 a0_4 a0_5 a0_6 a0_7 a0_8) else (some false)) = some r := H
              have A14 := Aside0.mk A140
              clear A140
              by_cases c15 : t140 = true
              · subst c15
                have H1 : (unit_Feasible.l0 k1 t139 l1 (l1.length : Int) (wrap64 (x16_1 + 1)) a0_0 a0_1 l0_2 a0_3 a0_4 a0_5 a0_6 a0_7 a0_8) = some r := by rw [if_pos rfl] at H; exact H
                clear H
                have H := H1
                clear H1
                have H' := Aside0.mk H
                clear H
                have p138 : 0 ≤ (x16_1 : Int) := of_decide_eq_true (by first | (with_reducible assumption) | assumption)
                have q138 : x16_1 < (l1.length : Int) := of_decide_eq_true (by first | (with_reducible assumption) | assumption)
                obtain ⟨ad138, e138, hx138_0⟩ := Kd.at_bool HR1.out x16_1 p138 q138
                cases e138
                replace hx138_0 := (HB.out.cell (World.block_lt_of_cell? w _ hx138_0)).trans hx138_0
                replace p138 := eq_true p138
                replace q138 := eq_true q138
                obtain ⟨hcz16_0, hcz16_1, hcz16_2, hcz16_3, hcz16_4, hcz16_5, hcz16_6, hcz16_7, hcz16_8⟩ := cells9 BK135.out
                obtain ⟨hfz16_0, hfz16_1, hfz16_2, hfz16_3, hfz16_4, hfz16_5, hfz16_6, hfz16_7, hfz16_8⟩ := froz9 BK135.out
                go_wp2_with (first | ((with_reducible refine gate_callee (f := 48) rfl ?_); refine goesL_ (some 24) rfl rfl Try.func48 (by kernel_rfl) rfl #[.agg #[.int .i64 a0_0, .int .i64 a0_1, .slice A0_2 l0_2.length c0_2, .int .i64 a0_3, .int .i64 a0_4, .int .i64 a0_5, .int .i64 a0_6, .int .i64 a0_7, .int .i64 a0_8], .int .i64 x5_1, .bool (rdOf false l1 x16_1)] rfl (by (try simp only [List.map_toArray, List.map_cons, List.map_nil]); first | done | rfl | (simp only [List.length_drop, List.length_take]; rfl)) ?_; (with_reducible refine (unit_next.calls k1 a0_0 a0_1 _ _ l0_2 a0_3 a0_4 a0_5 a0_6 a0_7 a0_8 x5_1 (rdOf false l1 x16_1) t139 true _ ?side1 ?side2 A14.out).mono ?_); (case side1 => repeat (first | exact (Kd.C_below HR0_2.out HB.out) | (with_reducible refine Kd.C_alloc ?_ _) | (with_reducible refine Kd.C_drewN ?_ _) | (with_reducible refine Kd.C_drew ?_))); (case side2 => exact HC0_2.out); rintro e w17 ⟨rfl, hb⟩; refine ⟨_, rfl, ?_⟩; have n0_ := Aside0.mk (blk_below (g := gb135) (o := .cells #[.int .i64 a0_0, .int .i64 a0_1, .slice A0_2 l0_2.length c0_2, .int .i64 a0_3, .int .i64 a0_4, .int .i64 a0_5, .int .i64 a0_6, .int .i64 a0_7, .int .i64 a0_8] 24 (0, 0)) (by (with_reducible repeat (first | refine blk_drewN ?_ _ | refine blk_drew ?_ | refine blk_alloc ?_ _)); exact BK135.out) hb); have n1_ := Aside0.mk (below_step (by repeat (first | (with_reducible first | exact HB.out | apply below_alloc | apply pw_below_drewN | apply below_drew1 | refine below_set ?_ GE135.out) | exact HB.out)) hb); clear BK135; clear HB; have BK135 := n0_; have HB := n1_; clear n0_ n1_; (try clear hb); (try clear hb2); (try clear hk); (try clear hi)))
                go_roundg k1
                case measure => have := HK1.out; omega
                case rel => exact ⟨(t139), (wrap64 (x16_1 + 1)), (by first | rfl | (simp; done) | (simp [*]; done)), (by first | rfl | (simp; done) | (simp [*]; done)), H', ⟨by have := HK1.out; omega⟩, ⟨by (with_reducible repeat (first | refine blk_drewN ?_ _ | refine blk_drew ?_ | refine blk_alloc ?_ _)); exact BK135.out⟩, ⟨by repeat (first | (with_reducible first | exact HB.out | apply below_alloc | apply pw_below_drewN | apply below_drew1 | refine below_set ?_ GE135.out) | exact HB.out)⟩⟩
              replace c15 := Bool.eq_false_iff.mpr c15
              subst c15
              have H1 : (some false) = some r := by rw [if_neg (show ¬ (false = true) by decide)] at H; exact H
              clear H
              have H := H1
              clear H1
              obtain rfl := Option.some.inj H
              have p138 : 0 ≤ (x16_1 : Int) := of_decide_eq_true (by first | (with_reducible assumption) | assumption)
              have q138 : x16_1 < (l1.length : Int) := of_decide_eq_true (by first | (with_reducible assumption) | assumption)
              obtain ⟨ad138, e138, hx138_0⟩ := Kd.at_bool HR1.out x16_1 p138 q138
              cases e138
              replace hx138_0 := (HB.out.cell (World.block_lt_of_cell? w _ hx138_0)).trans hx138_0
              replace p138 := eq_true p138
              replace q138 := eq_true q138
              obtain ⟨hcz18_0, hcz18_1, hcz18_2, hcz18_3, hcz18_4, hcz18_5, hcz18_6, hcz18_7, hcz18_8⟩ := cells9 BK135.out
              obtain ⟨hfz18_0, hfz18_1, hfz18_2, hfz18_3, hfz18_4, hfz18_5, hfz18_6, hfz18_7, hfz18_8⟩ := froz9 BK135.out
              go_wp2_with (first | ((with_reducible refine gate_callee (f := 48) rfl ?_); refine goesL_ (some 24) rfl rfl Try.func48 (by kernel_rfl) rfl #[.agg #[.int .i64 a0_0, .int .i64 a0_1, .slice A0_2 l0_2.length c0_2, .int .i64 a0_3, .int .i64 a0_4, .int .i64 a0_5, .int .i64 a0_6, .int .i64 a0_7, .int .i64 a0_8], .int .i64 x5_1, .bool (rdOf false l1 x16_1)] rfl (by (try simp only [List.map_toArray, List.map_cons, List.map_nil]); first | done | rfl | (simp only [List.length_drop, List.length_take]; rfl)) ?_; (with_reducible refine (unit_next.calls k1 a0_0 a0_1 _ _ l0_2 a0_3 a0_4 a0_5 a0_6 a0_7 a0_8 x5_1 (rdOf false l1 x16_1) t139 false _ ?side1 ?side2 A14.out).mono ?_); (case side1 => repeat (first | exact (Kd.C_below HR0_2.out HB.out) | (with_reducible refine Kd.C_alloc ?_ _) | (with_reducible refine Kd.C_drewN ?_ _) | (with_reducible refine Kd.C_drew ?_))); (case side2 => exact HC0_2.out); rintro e w19 ⟨rfl, hb⟩; refine ⟨_, rfl, ?_⟩; have n0_ := Aside0.mk (blk_below (g := gb135) (o := .cells #[.int .i64 a0_0, .int .i64 a0_1, .slice A0_2 l0_2.length c0_2, .int .i64 a0_3, .int .i64 a0_4, .int .i64 a0_5, .int .i64 a0_6, .int .i64 a0_7, .int .i64 a0_8] 24 (0, 0)) (by (with_reducible repeat (first | refine blk_drewN ?_ _ | refine blk_drew ?_ | refine blk_alloc ?_ _)); exact BK135.out) hb); have n1_ := Aside0.mk (below_step (by repeat (first | (with_reducible first | exact HB.out | apply below_alloc | apply pw_below_drewN | apply below_drew1 | refine below_set ?_ GE135.out) | exact HB.out)) hb); clear BK135; clear HB; have BK135 := n0_; have HB := n1_; clear n0_ n1_; (try clear hb); (try clear hb2); (try clear hk); (try clear hi)))
              go_ret
              exact ⟨by first | rfl | (simp [errW_none, errW_some] <;> rfl) | (simp [*, errW_none, errW_some] <;> rfl), by repeat (first | (with_reducible first | exact HB.out | apply below_alloc | apply pw_below_drewN | apply below_drew1 | refine below_set ?_ GE135.out) | exact HB.out)⟩
            rw [if_neg c13] at H
            exact absurd H (by simp)
          rw [if_neg c12] at H
          exact absurd H (by simp)
        rw [if_neg c11] at H
        have c11b0 : decide (x16_1 < (l1.length : Int)) = false := decide_eq_false c11
        clear c11
        obtain rfl := Option.some.inj H
        go_wp2
        go_ret
        exact ⟨by first | rfl | (simp [errW_none, errW_some] <;> rfl) | (simp [*, errW_none, errW_some] <;> rfl), by repeat (first | (with_reducible first | exact HB.out | apply below_alloc | apply pw_below_drewN | apply below_drew1 | refine below_set ?_ GE135.out) | exact HB.out)⟩
  replace c4 := Bool.eq_false_iff.mpr c4
  subst c4
  have H1 : (some false) = some r := by rw [if_neg (show ¬ (false = true) by decide)] at H; exact H
  clear H
  have H := H1
  clear H1
  obtain rfl := Option.some.inj H
  go_enter Try.func22, Try.ntmps22
  go_wp2_with (first | ((with_reducible refine gate_dst (N := 2) rfl ?_); refine box_event ?hg (N := 2) ?hd (cs := #[.int .i64 a0_0, .int .i64 a0_1, .slice A0_2 l0_2.length c0_2, .int .i64 a0_3, .int .i64 a0_4, .int .i64 a0_5, .int .i64 a0_6, .int .i64 a0_7, .int .i64 a0_8]) (t := 24) ?hr ?_; (case hd => rfl); (case hg => rfl); (case hr => first | (go_simp; done) | (go_simp; rfl)); intro gb135 hg w20 hbox hb; have n0_ := Aside0.mk (below_step (by repeat (first | (with_reducible first | exact HB.out | apply below_alloc | apply pw_below_drewN | apply below_drew1) | exact HB.out)) hb); have n1_ := Aside0.mk (hbox); have n2_ := Aside0.mk ((by rw [hg]; exact (below_size (by repeat (first | (with_reducible first | exact HB.out | apply below_alloc | apply pw_below_drewN | apply below_drew1) | exact HB.out))) : w.heap.size ≤ gb135)); have n3_ := Aside0.mk ((by rw [hg]; exact (below_size (by repeat (first | (with_reducible first | exact HB.out | apply below_alloc | apply pw_below_drewN | apply below_drew1) | exact HB.out))) : w.heap.size ≤ gb135)); clear HB; have HB := n0_; have BK135 := n1_; have GW135 := n2_; have GE135 := n3_; clear n0_ n1_ n2_ n3_; clear hb hbox hg; have hcz21_0 : w20.cell? ⟨gb135, 0, none⟩ = some (.int .i64 a0_0) := (blk_cell BK135.out 0).trans rfl; have hcz21_1 : w20.cell? ⟨gb135, 1, none⟩ = some (.int .i64 a0_1) := (blk_cell BK135.out 1).trans rfl; have hcz21_2 : w20.cell? ⟨gb135, 2, none⟩ = some (.slice A0_2 l0_2.length c0_2) := (blk_cell BK135.out 2).trans rfl; have hcz21_3 : w20.cell? ⟨gb135, 3, none⟩ = some (.int .i64 a0_3) := (blk_cell BK135.out 3).trans rfl; have hcz21_4 : w20.cell? ⟨gb135, 4, none⟩ = some (.int .i64 a0_4) := (blk_cell BK135.out 4).trans rfl; have hcz21_5 : w20.cell? ⟨gb135, 5, none⟩ = some (.int .i64 a0_5) := (blk_cell BK135.out 5).trans rfl; have hcz21_6 : w20.cell? ⟨gb135, 6, none⟩ = some (.int .i64 a0_6) := (blk_cell BK135.out 6).trans rfl; have hcz21_7 : w20.cell? ⟨gb135, 7, none⟩ = some (.int .i64 a0_7) := (blk_cell BK135.out 7).trans rfl; have hcz21_8 : w20.cell? ⟨gb135, 8, none⟩ = some (.int .i64 a0_8) := (blk_cell BK135.out 8).trans rfl; have hfz21_0 := blk_frozen BK135.out 0; have hfz21_1 := blk_frozen BK135.out 1; have hfz21_2 := blk_frozen BK135.out 2; have hfz21_3 := blk_frozen BK135.out 3; have hfz21_4 := blk_frozen BK135.out 4; have hfz21_5 := blk_frozen BK135.out 5; have hfz21_6 := blk_frozen BK135.out 6; have hfz21_7 := blk_frozen BK135.out 7; have hfz21_8 := blk_frozen BK135.out 8) | ((with_reducible refine gate_callee (f := 49) rfl ?_); refine goesL_ (some 10) rfl rfl Try.func49 (by kernel_rfl) rfl #[.agg #[.int .i64 a0_0, .int .i64 a0_1, .slice A0_2 l0_2.length c0_2, .int .i64 a0_3, .int .i64 a0_4, .int .i64 a0_5, .int .i64 a0_6, .int .i64 a0_7, .int .i64 a0_8]] rfl (by (try simp only [List.map_toArray, List.map_cons, List.map_nil]); first | done | rfl | (simp only [List.length_drop, List.length_take]; rfl)) ?_; (with_reducible refine (unit_may.calls k a0_0 a0_1 _ _ l0_2 a0_3 a0_4 a0_5 a0_6 a0_7 a0_8 false _ ?side1 ?side2 A3.out).mono ?_); (case side1 => repeat (first | exact (Kd.C_below HR0_2.out HB.out) | (with_reducible refine Kd.C_alloc ?_ _) | (with_reducible refine Kd.C_drewN ?_ _) | (with_reducible refine Kd.C_drew ?_))); (case side2 => exact HC0_2.out); rintro e w22 ⟨rfl, hb⟩; refine ⟨_, rfl, ?_⟩; have n0_ := Aside0.mk (blk_below (g := gb135) (o := .cells #[.int .i64 a0_0, .int .i64 a0_1, .slice A0_2 l0_2.length c0_2, .int .i64 a0_3, .int .i64 a0_4, .int .i64 a0_5, .int .i64 a0_6, .int .i64 a0_7, .int .i64 a0_8] 24 (0, 0)) (by (with_reducible repeat (first | refine blk_drewN ?_ _ | refine blk_drew ?_ | refine blk_alloc ?_ _)); exact BK135.out) hb); have n1_ := Aside0.mk (below_step (by repeat (first | (with_reducible first | exact HB.out | apply below_alloc | apply pw_below_drewN | apply below_drew1 | refine below_set ?_ GE135.out) | exact HB.out)) hb); clear BK135; clear HB; have BK135 := n0_; have HB := n1_; clear n0_ n1_; (try clear hb); (try clear hb2); (try clear hk); (try clear hi)))
  go_ret
  exact ⟨by first | rfl | (simp [errW_none, errW_some] <;> rfl) | (simp [*, errW_none, errW_some] <;> rfl), by repeat (first | (with_reducible first | exact HB.out | apply below_alloc | apply pw_below_drewN | apply below_drew1 | refine below_set ?_ GE135.out) | exact HB.out)⟩

end Go.Proofs.Ytelklgdmhnkenaa.U
/- Lean functions with the answers of Go functions, and proofs that the calls come to these answers (lines by a program of this session, wip/patch_print.py, over the kit's print tool). -/
namespace Go.Proofs.Ytelklgdmhnkenaa.U
open Go.RowKit Go.Proofs.YtelklgdmhnkenaaW.PrintWords Go.Proofs.YtelklgdmhnkenaaW.PrintLast Go.Proofs.YtelklgdmhnkenaaW.PrintMore
attribute [local go_sem] max2_int min2_int max_two min_two max_three min_three max_four min_four   -- for this text's walks alone
set_option linter.unusedVariables false
set_option linter.unusedSimpArgs false

/-! ### unit_Next: function 24 -/
def unit_Next.f (k : Nat) (a0_0 : Int) (a0_1 : Int) (l0_2 : List (S99)) (a0_3 : Int) (a0_4 : Int) (a0_5 : Int) (a0_6 : Int) (a0_7 : Int) (a0_8 : Int) (a1 : Int) (a2 : Bool) : Option (Int × Bool) := (unit_may.f k a0_0 a0_1 l0_2 a0_3 a0_4 a0_5 a0_6 a0_7 a0_8).bind fun t142 => (if t142 = true then (if a1 = 0 then (some (0, false)) else ((unit_within_int.f a1 (wrap64 (-a0_4)) a0_3).bind fun t143 => (if t143 = true then ((unit_next.f k a0_0 a0_1 l0_2 a0_3 a0_4 a0_5 a0_6 a0_7 a0_8 a1 a2).bind fun bt144 => (some (bt144.1, bt144.2))) else (some (0, false))))) else (some (0, false)))
set_option maxHeartbeats 8000000 in
set_option maxRecDepth 100000 in
theorem unit_Next.calls (k : Nat) (a0_0 : Int) (a0_1 : Int) (A0_2 : Option Addr) (c0_2 : Nat) (l0_2 : List (S99)) (a0_3 : Int) (a0_4 : Int) (a0_5 : Int) (a0_6 : Int) (a0_7 : Int) (a0_8 : Int) (a1 : Int) (a2 : Bool) (r1 : Int) (r2 : Bool) (w : World) (hr0_2 : Kd.C k99 w A0_2 l0_2.length l0_2) (hc0_2 : l0_2.length ≤ c0_2) (h : unit_Next.f k a0_0 a0_1 l0_2 a0_3 a0_4 a0_5 a0_6 a0_7 a0_8 a1 a2 = some (r1, r2)) :
    Calls Try.prog 24 #[.agg #[.int .i64 a0_0, .int .i64 a0_1, .slice A0_2 l0_2.length c0_2, .int .i64 a0_3, .int .i64 a0_4, .int .i64 a0_5, .int .i64 a0_6, .int .i64 a0_7, .int .i64 a0_8], .int .i64 a1, .bool a2] w fun e w' => e = .returned (.tuple #[.int .i64 r1, .bool r2]) ∧ Below w.heap.size w w' := by
  have hu24 := Try.underlying24
  have HR0_2 := Aside0.mk hr0_2
  have HC0_2 := Aside0.mk hc0_2
  clear hr0_2 hc0_2
  have HB := Aside0.mk (Below.refl w.heap.size w)
  have H : ((unit_may.f k a0_0 a0_1 l0_2 a0_3 a0_4 a0_5 a0_6 a0_7 a0_8).bind fun t142 => (if t142 = true then (if a1 = 0 then (some (0, false)) else ((unit_within_int.f a1 (wrap64 (-a0_4)) a0_3).bind fun t143 => (if t143 = true then ((unit_next.f k a0_0 a0_1 l0_2 a0_3 a0_4 a0_5 a0_6 a0_7 a0_8 a1 a2).bind fun bt144 => (some (bt144.1, bt144.2))) else (some (0, false))))) else (some (0, false)))) = some (r1, r2) := h
  clear h
  replace H := Option.bind_eq_some_iff.mp H
  obtain ⟨t142, A40, H⟩ := H
  replace H : (if t142 = true then (if a1 = 0 then (some (0, false)) else ((unit_within_int.f a1 (wrap64 (-a0_4)) a0_3).bind fun t143 => (if t143 = true then ((unit_next.f k a0_0 a0_1 l0_2 a0_3 a0_4 a0_5 a0_6 a0_7 a0_8 a1 a2).bind fun bt144 => (some (bt144.1, bt144.2))) else (some (0, false))))) else (some (0, false))) = some (r1, r2) := H
  have A4 := Aside0.mk A40
  clear A40
  by_cases c5 : t142 = true
  · subst c5
    have H1 : (if a1 = 0 then (some (0, false)) else ((unit_within_int.f a1 (wrap64 (-a0_4)) a0_3).bind fun t143 => (if t143 = true then ((unit_next.f k a0_0 a0_1 l0_2 a0_3 a0_4 a0_5 a0_6 a0_7 a0_8 a1 a2).bind fun bt144 => (some (bt144.1, bt144.2))) else (some (0, false))))) = some (r1, r2) := by rw [if_pos rfl] at H; exact H
    clear H
    have H := H1
    clear H1
    by_cases c6 : a1 = 0
    · rw [if_pos c6] at H
      have c6b0 : (a1 == 0) = true := beq_iff_eq.mpr c6
      have c6b1 : (a1 != 0) = false := bne_eq_false_iff_eq.mpr c6
      clear c6
      simp only [Option.some.injEq, Prod.mk.injEq] at H
      obtain ⟨rfl, rfl⟩ := H
      go_enter Try.func24, Try.ntmps24
      go_wp2_with (first | ((with_reducible refine gate_dst (N := 3) rfl ?_); refine box_event ?hg (N := 3) ?hd (cs := #[.int .i64 a0_0, .int .i64 a0_1, .slice A0_2 l0_2.length c0_2, .int .i64 a0_3, .int .i64 a0_4, .int .i64 a0_5, .int .i64 a0_6, .int .i64 a0_7, .int .i64 a0_8]) (t := 24) ?hr ?_; (case hd => rfl); (case hg => rfl); (case hr => first | (go_simp; done) | (go_simp; rfl)); intro gb141 hg w7 hbox hb; have n0_ := Aside0.mk (below_step (by repeat (first | (with_reducible first | exact HB.out | apply below_alloc | apply pw_below_drewN | apply below_drew1) | exact HB.out)) hb); have n1_ := Aside0.mk (hbox); have n2_ := Aside0.mk ((by rw [hg]; exact (below_size (by repeat (first | (with_reducible first | exact HB.out | apply below_alloc | apply pw_below_drewN | apply below_drew1) | exact HB.out))) : w.heap.size ≤ gb141)); have n3_ := Aside0.mk ((by rw [hg]; exact (below_size (by repeat (first | (with_reducible first | exact HB.out | apply below_alloc | apply pw_below_drewN | apply below_drew1) | exact HB.out))) : w.heap.size ≤ gb141)); clear HB; have HB := n0_; have BK141 := n1_; have GW141 := n2_; have GE141 := n3_; clear n0_ n1_ n2_ n3_; clear hb hbox hg; have hcz8_0 : w7.cell? ⟨gb141, 0, none⟩ = some (.int .i64 a0_0) := (blk_cell BK141.out 0).trans rfl; have hcz8_1 : w7.cell? ⟨gb141, 1, none⟩ = some (.int .i64 a0_1) := (blk_cell BK141.out 1).trans rfl; have hcz8_2 : w7.cell? ⟨gb141, 2, none⟩ = some (.slice A0_2 l0_2.length c0_2) := (blk_cell BK141.out 2).trans rfl; have hcz8_3 : w7.cell? ⟨gb141, 3, none⟩ = some (.int .i64 a0_3) := (blk_cell BK141.out 3).trans rfl; have hcz8_4 : w7.cell? ⟨gb141, 4, none⟩ = some (.int .i64 a0_4) := (blk_cell BK141.out 4).trans rfl; have hcz8_5 : w7.cell? ⟨gb141, 5, none⟩ = some (.int .i64 a0_5) := (blk_cell BK141.out 5).trans rfl; have hcz8_6 : w7.cell? ⟨gb141, 6, none⟩ = some (.int .i64 a0_6) := (blk_cell BK141.out 6).trans rfl; have hcz8_7 : w7.cell? ⟨gb141, 7, none⟩ = some (.int .i64 a0_7) := (blk_cell BK141.out 7).trans rfl; have hcz8_8 : w7.cell? ⟨gb141, 8, none⟩ = some (.int .i64 a0_8) := (blk_cell BK141.out 8).trans rfl; have hfz8_0 := blk_frozen BK141.out 0; have hfz8_1 := blk_frozen BK141.out 1; have hfz8_2 := blk_frozen BK141.out 2; have hfz8_3 := blk_frozen BK141.out 3; have hfz8_4 := blk_frozen BK141.out 4; have hfz8_5 := blk_frozen BK141.out 5; have hfz8_6 := blk_frozen BK141.out 6; have hfz8_7 := blk_frozen BK141.out 7; have hfz8_8 := blk_frozen BK141.out 8) | ((with_reducible refine gate_callee (f := 49) rfl ?_); refine goesL_ (some 9) rfl rfl Try.func49 (by kernel_rfl) rfl #[.agg #[.int .i64 a0_0, .int .i64 a0_1, .slice A0_2 l0_2.length c0_2, .int .i64 a0_3, .int .i64 a0_4, .int .i64 a0_5, .int .i64 a0_6, .int .i64 a0_7, .int .i64 a0_8]] rfl (by (try simp only [List.map_toArray, List.map_cons, List.map_nil]); first | done | rfl | (simp only [List.length_drop, List.length_take]; rfl)) ?_; (with_reducible refine (unit_may.calls k a0_0 a0_1 _ _ l0_2 a0_3 a0_4 a0_5 a0_6 a0_7 a0_8 true _ ?side1 ?side2 A4.out).mono ?_); (case side1 => repeat (first | exact (Kd.C_below HR0_2.out HB.out) | (with_reducible refine Kd.C_alloc ?_ _) | (with_reducible refine Kd.C_drewN ?_ _) | (with_reducible refine Kd.C_drew ?_))); (case side2 => exact HC0_2.out); rintro e w9 ⟨rfl, hb⟩; refine ⟨_, rfl, ?_⟩; have n0_ := Aside0.mk (blk_below (g := gb141) (o := .cells #[.int .i64 a0_0, .int .i64 a0_1, .slice A0_2 l0_2.length c0_2, .int .i64 a0_3, .int .i64 a0_4, .int .i64 a0_5, .int .i64 a0_6, .int .i64 a0_7, .int .i64 a0_8] 24 (0, 0)) (by (with_reducible repeat (first | refine blk_drewN ?_ _ | refine blk_drew ?_ | refine blk_alloc ?_ _)); exact BK141.out) hb); have n1_ := Aside0.mk (below_step (by repeat (first | (with_reducible first | exact HB.out | apply below_alloc | apply pw_below_drewN | apply below_drew1 | refine below_set ?_ GE141.out) | exact HB.out)) hb); clear BK141; clear HB; have BK141 := n0_; have HB := n1_; clear n0_ n1_; (try clear hb); (try clear hb2); (try clear hk); (try clear hi)))
      go_ret2
      exact ⟨by first | rfl | (simp [errW_none, errW_some] <;> rfl) | (simp [*, errW_none, errW_some] <;> rfl), by repeat (first | (with_reducible first | exact HB.out | apply below_alloc | apply pw_below_drewN | apply below_drew1 | refine below_set ?_ GE141.out) | exact HB.out)⟩
    rw [if_neg c6] at H
    have c6b0 : (a1 == 0) = false := beq_eq_false_iff_ne.mpr c6
    have c6b1 : (a1 != 0) = true := bne_iff_ne.mpr c6
    replace H := Option.bind_eq_some_iff.mp H
    obtain ⟨t143, A100, H⟩ := H
    replace H : (if t143 = true then ((unit_next.f k a0_0 a0_1 l0_2 a0_3 a0_4 a0_5 a0_6 a0_7 a0_8 a1 a2).bind fun bt144 => (some (bt144.1, bt144.2))) else (some (0, false))) = some (r1, r2) := H
    have A10 := Aside0.mk A100
    clear A100
    by_cases c11 : t143 = true
    · subst c11
      have H1 : ((unit_next.f k a0_0 a0_1 l0_2 a0_3 a0_4 a0_5 a0_6 a0_7 a0_8 a1 a2).bind fun bt144 => (some (bt144.1, bt144.2))) = some (r1, r2) := by rw [if_pos rfl] at H; exact H
      clear H
      have H := H1
      clear H1
      replace H := Option.bind_eq_some_iff.mp H
      obtain ⟨⟨t144, t145⟩, A120, H⟩ := H
      replace H : (some (t144, t145)) = some (r1, r2) := H
      have A12 := Aside0.mk A120
      clear A120
      simp only [Option.some.injEq, Prod.mk.injEq] at H
      obtain ⟨rfl, rfl⟩ := H
      go_enter Try.func24, Try.ntmps24
      go_wp2_with (first | ((with_reducible refine gate_dst (N := 3) rfl ?_); refine box_event ?hg (N := 3) ?hd (cs := #[.int .i64 a0_0, .int .i64 a0_1, .slice A0_2 l0_2.length c0_2, .int .i64 a0_3, .int .i64 a0_4, .int .i64 a0_5, .int .i64 a0_6, .int .i64 a0_7, .int .i64 a0_8]) (t := 24) ?hr ?_; (case hd => rfl); (case hg => rfl); (case hr => first | (go_simp; done) | (go_simp; rfl)); intro gb141 hg w13 hbox hb; have n0_ := Aside0.mk (below_step (by repeat (first | (with_reducible first | exact HB.out | apply below_alloc | apply pw_below_drewN | apply below_drew1) | exact HB.out)) hb); have n1_ := Aside0.mk (hbox); have n2_ := Aside0.mk ((by rw [hg]; exact (below_size (by repeat (first | (with_reducible first | exact HB.out | apply below_alloc | apply pw_below_drewN | apply below_drew1) | exact HB.out))) : w.heap.size ≤ gb141)); have n3_ := Aside0.mk ((by rw [hg]; exact (below_size (by repeat (first | (with_reducible first | exact HB.out | apply below_alloc | apply pw_below_drewN | apply below_drew1) | exact HB.out))) : w.heap.size ≤ gb141)); clear HB; have HB := n0_; have BK141 := n1_; have GW141 := n2_; have GE141 := n3_; clear n0_ n1_ n2_ n3_; clear hb hbox hg; have hcz14_0 : w13.cell? ⟨gb141, 0, none⟩ = some (.int .i64 a0_0) := (blk_cell BK141.out 0).trans rfl; have hcz14_1 : w13.cell? ⟨gb141, 1, none⟩ = some (.int .i64 a0_1) := (blk_cell BK141.out 1).trans rfl; have hcz14_2 : w13.cell? ⟨gb141, 2, none⟩ = some (.slice A0_2 l0_2.length c0_2) := (blk_cell BK141.out 2).trans rfl; have hcz14_3 : w13.cell? ⟨gb141, 3, none⟩ = some (.int .i64 a0_3) := (blk_cell BK141.out 3).trans rfl; have hcz14_4 : w13.cell? ⟨gb141, 4, none⟩ = some (.int .i64 a0_4) := (blk_cell BK141.out 4).trans rfl; have hcz14_5 : w13.cell? ⟨gb141, 5, none⟩ = some (.int .i64 a0_5) := (blk_cell BK141.out 5).trans rfl; have hcz14_6 : w13.cell? ⟨gb141, 6, none⟩ = some (.int .i64 a0_6) := (blk_cell BK141.out 6).trans rfl; have hcz14_7 : w13.cell? ⟨gb141, 7, none⟩ = some (.int .i64 a0_7) := (blk_cell BK141.out 7).trans rfl; have hcz14_8 : w13.cell? ⟨gb141, 8, none⟩ = some (.int .i64 a0_8) := (blk_cell BK141.out 8).trans rfl; have hfz14_0 := blk_frozen BK141.out 0; have hfz14_1 := blk_frozen BK141.out 1; have hfz14_2 := blk_frozen BK141.out 2; have hfz14_3 := blk_frozen BK141.out 3; have hfz14_4 := blk_frozen BK141.out 4; have hfz14_5 := blk_frozen BK141.out 5; have hfz14_6 := blk_frozen BK141.out 6; have hfz14_7 := blk_frozen BK141.out 7; have hfz14_8 := blk_frozen BK141.out 8) | ((with_reducible refine gate_callee (f := 49) rfl ?_); refine goesL_ (some 9) rfl rfl Try.func49 (by kernel_rfl) rfl #[.agg #[.int .i64 a0_0, .int .i64 a0_1, .slice A0_2 l0_2.length c0_2, .int .i64 a0_3, .int .i64 a0_4, .int .i64 a0_5, .int .i64 a0_6, .int .i64 a0_7, .int .i64 a0_8]] rfl (by (try simp only [List.map_toArray, List.map_cons, List.map_nil]); first | done | rfl | (simp only [List.length_drop, List.length_take]; rfl)) ?_; (with_reducible refine (unit_may.calls k a0_0 a0_1 _ _ l0_2 a0_3 a0_4 a0_5 a0_6 a0_7 a0_8 true _ ?side1 ?side2 A4.out).mono ?_); (case side1 => repeat (first | exact (Kd.C_below HR0_2.out HB.out) | (with_reducible refine Kd.C_alloc ?_ _) | (with_reducible refine Kd.C_drewN ?_ _) | (with_reducible refine Kd.C_drew ?_))); (case side2 => exact HC0_2.out); rintro e w15 ⟨rfl, hb⟩; refine ⟨_, rfl, ?_⟩; have n0_ := Aside0.mk (blk_below (g := gb141) (o := .cells #[.int .i64 a0_0, .int .i64 a0_1, .slice A0_2 l0_2.length c0_2, .int .i64 a0_3, .int .i64 a0_4, .int .i64 a0_5, .int .i64 a0_6, .int .i64 a0_7, .int .i64 a0_8] 24 (0, 0)) (by (with_reducible repeat (first | refine blk_drewN ?_ _ | refine blk_drew ?_ | refine blk_alloc ?_ _)); exact BK141.out) hb); have n1_ := Aside0.mk (below_step (by repeat (first | (with_reducible first | exact HB.out | apply below_alloc | apply pw_below_drewN | apply below_drew1 | refine below_set ?_ GE141.out) | exact HB.out)) hb); clear BK141; clear HB; have BK141 := n0_; have HB := n1_; clear n0_ n1_; (try clear hb); (try clear hb2); (try clear hk); (try clear hi); have hcz16_0 : w15.cell? ⟨gb141, 0, none⟩ = some (.int .i64 a0_0) := (blk_cell BK141.out 0).trans rfl; have hcz16_1 : w15.cell? ⟨gb141, 1, none⟩ = some (.int .i64 a0_1) := (blk_cell BK141.out 1).trans rfl; have hcz16_2 : w15.cell? ⟨gb141, 2, none⟩ = some (.slice A0_2 l0_2.length c0_2) := (blk_cell BK141.out 2).trans rfl; have hcz16_3 : w15.cell? ⟨gb141, 3, none⟩ = some (.int .i64 a0_3) := (blk_cell BK141.out 3).trans rfl; have hcz16_4 : w15.cell? ⟨gb141, 4, none⟩ = some (.int .i64 a0_4) := (blk_cell BK141.out 4).trans rfl; have hcz16_5 : w15.cell? ⟨gb141, 5, none⟩ = some (.int .i64 a0_5) := (blk_cell BK141.out 5).trans rfl; have hcz16_6 : w15.cell? ⟨gb141, 6, none⟩ = some (.int .i64 a0_6) := (blk_cell BK141.out 6).trans rfl; have hcz16_7 : w15.cell? ⟨gb141, 7, none⟩ = some (.int .i64 a0_7) := (blk_cell BK141.out 7).trans rfl; have hcz16_8 : w15.cell? ⟨gb141, 8, none⟩ = some (.int .i64 a0_8) := (blk_cell BK141.out 8).trans rfl; have hfz16_0 := blk_frozen BK141.out 0; have hfz16_1 := blk_frozen BK141.out 1; have hfz16_2 := blk_frozen BK141.out 2; have hfz16_3 := blk_frozen BK141.out 3; have hfz16_4 := blk_frozen BK141.out 4; have hfz16_5 := blk_frozen BK141.out 5; have hfz16_6 := blk_frozen BK141.out 6; have hfz16_7 := blk_frozen BK141.out 7; have hfz16_8 := blk_frozen BK141.out 8) | (go_at_call 45; (with_reducible refine (unit_within_int.calls a1 (wrap64 (-a0_4)) a0_3 true _ A10.out).mono ?_); rintro e w' ⟨rfl, ⟨nd, rfl⟩⟩) | ((with_reducible refine gate_callee (f := 48) rfl ?_); refine goesL_ (some 28) rfl rfl Try.func48 (by kernel_rfl) rfl #[.agg #[.int .i64 a0_0, .int .i64 a0_1, .slice A0_2 l0_2.length c0_2, .int .i64 a0_3, .int .i64 a0_4, .int .i64 a0_5, .int .i64 a0_6, .int .i64 a0_7, .int .i64 a0_8], .int .i64 a1, .bool a2] rfl (by (try simp only [List.map_toArray, List.map_cons, List.map_nil]); first | done | rfl | (simp only [List.length_drop, List.length_take]; rfl)) ?_; (with_reducible refine (unit_next.calls k a0_0 a0_1 _ _ l0_2 a0_3 a0_4 a0_5 a0_6 a0_7 a0_8 a1 a2 t144 t145 _ ?side1 ?side2 A12.out).mono ?_); (case side1 => repeat (first | exact (Kd.C_below HR0_2.out (by repeat (first | (with_reducible first | exact HB.out | apply below_alloc | apply pw_below_drewN | apply below_drew1 | refine below_set ?_ GE141.out) | exact HB.out))) | (with_reducible refine Kd.C_alloc ?_ _) | (with_reducible refine Kd.C_drewN ?_ _) | (with_reducible refine Kd.C_drew ?_))); (case side2 => exact HC0_2.out); rintro e w17 ⟨rfl, hb⟩; refine ⟨_, rfl, ?_⟩; have n0_ := Aside0.mk (blk_below (g := gb141) (o := .cells #[.int .i64 a0_0, .int .i64 a0_1, .slice A0_2 l0_2.length c0_2, .int .i64 a0_3, .int .i64 a0_4, .int .i64 a0_5, .int .i64 a0_6, .int .i64 a0_7, .int .i64 a0_8] 24 (0, 0)) (by (with_reducible repeat (first | refine blk_drewN ?_ _ | refine blk_drew ?_ | refine blk_alloc ?_ _)); exact BK141.out) hb); have n1_ := Aside0.mk (below_step (by repeat (first | (with_reducible first | exact HB.out | apply below_alloc | apply pw_below_drewN | apply below_drew1 | refine below_set ?_ GE141.out) | exact HB.out)) hb); clear BK141; clear HB; have BK141 := n0_; have HB := n1_; clear n0_ n1_; (try clear hb); (try clear hb2); (try clear hk); (try clear hi)))
      go_ret2
      exact ⟨by first | rfl | (simp [errW_none, errW_some] <;> rfl) | (simp [*, errW_none, errW_some] <;> rfl), by repeat (first | (with_reducible first | exact HB.out | apply below_alloc | apply pw_below_drewN | apply below_drew1 | refine below_set ?_ GE141.out) | exact HB.out)⟩
    replace c11 := Bool.eq_false_iff.mpr c11
    subst c11
    have H1 : (some (0, false)) = some (r1, r2) := by rw [if_neg (show ¬ (false = true) by decide)] at H; exact H
    clear H
    have H := H1
    clear H1
    simp only [Option.some.injEq, Prod.mk.injEq] at H
    obtain ⟨rfl, rfl⟩ := H
    go_enter Try.func24, Try.ntmps24
    go_wp2_with (first | ((with_reducible refine gate_dst (N := 3) rfl ?_); refine box_event ?hg (N := 3) ?hd (cs := #[.int .i64 a0_0, .int .i64 a0_1, .slice A0_2 l0_2.length c0_2, .int .i64 a0_3, .int .i64 a0_4, .int .i64 a0_5, .int .i64 a0_6, .int .i64 a0_7, .int .i64 a0_8]) (t := 24) ?hr ?_; (case hd => rfl); (case hg => rfl); (case hr => first | (go_simp; done) | (go_simp; rfl)); intro gb141 hg w18 hbox hb; have n0_ := Aside0.mk (below_step (by repeat (first | (with_reducible first | exact HB.out | apply below_alloc | apply pw_below_drewN | apply below_drew1) | exact HB.out)) hb); have n1_ := Aside0.mk (hbox); have n2_ := Aside0.mk ((by rw [hg]; exact (below_size (by repeat (first | (with_reducible first | exact HB.out | apply below_alloc | apply pw_below_drewN | apply below_drew1) | exact HB.out))) : w.heap.size ≤ gb141)); have n3_ := Aside0.mk ((by rw [hg]; exact (below_size (by repeat (first | (with_reducible first | exact HB.out | apply below_alloc | apply pw_below_drewN | apply below_drew1) | exact HB.out))) : w.heap.size ≤ gb141)); clear HB; have HB := n0_; have BK141 := n1_; have GW141 := n2_; have GE141 := n3_; clear n0_ n1_ n2_ n3_; clear hb hbox hg; have hcz19_0 : w18.cell? ⟨gb141, 0, none⟩ = some (.int .i64 a0_0) := (blk_cell BK141.out 0).trans rfl; have hcz19_1 : w18.cell? ⟨gb141, 1, none⟩ = some (.int .i64 a0_1) := (blk_cell BK141.out 1).trans rfl; have hcz19_2 : w18.cell? ⟨gb141, 2, none⟩ = some (.slice A0_2 l0_2.length c0_2) := (blk_cell BK141.out 2).trans rfl; have hcz19_3 : w18.cell? ⟨gb141, 3, none⟩ = some (.int .i64 a0_3) := (blk_cell BK141.out 3).trans rfl; have hcz19_4 : w18.cell? ⟨gb141, 4, none⟩ = some (.int .i64 a0_4) := (blk_cell BK141.out 4).trans rfl; have hcz19_5 : w18.cell? ⟨gb141, 5, none⟩ = some (.int .i64 a0_5) := (blk_cell BK141.out 5).trans rfl; have hcz19_6 : w18.cell? ⟨gb141, 6, none⟩ = some (.int .i64 a0_6) := (blk_cell BK141.out 6).trans rfl; have hcz19_7 : w18.cell? ⟨gb141, 7, none⟩ = some (.int .i64 a0_7) := (blk_cell BK141.out 7).trans rfl; have hcz19_8 : w18.cell? ⟨gb141, 8, none⟩ = some (.int .i64 a0_8) := (blk_cell BK141.out 8).trans rfl; have hfz19_0 := blk_frozen BK141.out 0; have hfz19_1 := blk_frozen BK141.out 1; have hfz19_2 := blk_frozen BK141.out 2; have hfz19_3 := blk_frozen BK141.out 3; have hfz19_4 := blk_frozen BK141.out 4; have hfz19_5 := blk_frozen BK141.out 5; have hfz19_6 := blk_frozen BK141.out 6; have hfz19_7 := blk_frozen BK141.out 7; have hfz19_8 := blk_frozen BK141.out 8) | ((with_reducible refine gate_callee (f := 49) rfl ?_); refine goesL_ (some 9) rfl rfl Try.func49 (by kernel_rfl) rfl #[.agg #[.int .i64 a0_0, .int .i64 a0_1, .slice A0_2 l0_2.length c0_2, .int .i64 a0_3, .int .i64 a0_4, .int .i64 a0_5, .int .i64 a0_6, .int .i64 a0_7, .int .i64 a0_8]] rfl (by (try simp only [List.map_toArray, List.map_cons, List.map_nil]); first | done | rfl | (simp only [List.length_drop, List.length_take]; rfl)) ?_; (with_reducible refine (unit_may.calls k a0_0 a0_1 _ _ l0_2 a0_3 a0_4 a0_5 a0_6 a0_7 a0_8 true _ ?side1 ?side2 A4.out).mono ?_); (case side1 => repeat (first | exact (Kd.C_below HR0_2.out HB.out) | (with_reducible refine Kd.C_alloc ?_ _) | (with_reducible refine Kd.C_drewN ?_ _) | (with_reducible refine Kd.C_drew ?_))); (case side2 => exact HC0_2.out); rintro e w20 ⟨rfl, hb⟩; refine ⟨_, rfl, ?_⟩; have n0_ := Aside0.mk (blk_below (g := gb141) (o := .cells #[.int .i64 a0_0, .int .i64 a0_1, .slice A0_2 l0_2.length c0_2, .int .i64 a0_3, .int .i64 a0_4, .int .i64 a0_5, .int .i64 a0_6, .int .i64 a0_7, .int .i64 a0_8] 24 (0, 0)) (by (with_reducible repeat (first | refine blk_drewN ?_ _ | refine blk_drew ?_ | refine blk_alloc ?_ _)); exact BK141.out) hb); have n1_ := Aside0.mk (below_step (by repeat (first | (with_reducible first | exact HB.out | apply below_alloc | apply pw_below_drewN | apply below_drew1 | refine below_set ?_ GE141.out) | exact HB.out)) hb); clear BK141; clear HB; have BK141 := n0_; have HB := n1_; clear n0_ n1_; (try clear hb); (try clear hb2); (try clear hk); (try clear hi); have hcz21_0 : w20.cell? ⟨gb141, 0, none⟩ = some (.int .i64 a0_0) := (blk_cell BK141.out 0).trans rfl; have hcz21_1 : w20.cell? ⟨gb141, 1, none⟩ = some (.int .i64 a0_1) := (blk_cell BK141.out 1).trans rfl; have hcz21_2 : w20.cell? ⟨gb141, 2, none⟩ = some (.slice A0_2 l0_2.length c0_2) := (blk_cell BK141.out 2).trans rfl; have hcz21_3 : w20.cell? ⟨gb141, 3, none⟩ = some (.int .i64 a0_3) := (blk_cell BK141.out 3).trans rfl; have hcz21_4 : w20.cell? ⟨gb141, 4, none⟩ = some (.int .i64 a0_4) := (blk_cell BK141.out 4).trans rfl; have hcz21_5 : w20.cell? ⟨gb141, 5, none⟩ = some (.int .i64 a0_5) := (blk_cell BK141.out 5).trans rfl; have hcz21_6 : w20.cell? ⟨gb141, 6, none⟩ = some (.int .i64 a0_6) := (blk_cell BK141.out 6).trans rfl; have hcz21_7 : w20.cell? ⟨gb141, 7, none⟩ = some (.int .i64 a0_7) := (blk_cell BK141.out 7).trans rfl; have hcz21_8 : w20.cell? ⟨gb141, 8, none⟩ = some (.int .i64 a0_8) := (blk_cell BK141.out 8).trans rfl; have hfz21_0 := blk_frozen BK141.out 0; have hfz21_1 := blk_frozen BK141.out 1; have hfz21_2 := blk_frozen BK141.out 2; have hfz21_3 := blk_frozen BK141.out 3; have hfz21_4 := blk_frozen BK141.out 4; have hfz21_5 := blk_frozen BK141.out 5; have hfz21_6 := blk_frozen BK141.out 6; have hfz21_7 := blk_frozen BK141.out 7; have hfz21_8 := blk_frozen BK141.out 8) | (go_at_call 45; (with_reducible refine (unit_within_int.calls a1 (wrap64 (-a0_4)) a0_3 false _ A10.out).mono ?_); rintro e w' ⟨rfl, ⟨nd, rfl⟩⟩))
    go_ret2
    exact ⟨by first | rfl | (simp [errW_none, errW_some] <;> rfl) | (simp [*, errW_none, errW_some] <;> rfl), by repeat (first | (with_reducible first | exact HB.out | apply below_alloc | apply pw_below_drewN | apply below_drew1 | refine below_set ?_ GE141.out) | exact HB.out)⟩
  replace c5 := Bool.eq_false_iff.mpr c5
  subst c5
  have H1 : (some (0, false)) = some (r1, r2) := by rw [if_neg (show ¬ (false = true) by decide)] at H; exact H
  clear H
  have H := H1
  clear H1
  simp only [Option.some.injEq, Prod.mk.injEq] at H
  obtain ⟨rfl, rfl⟩ := H
  go_enter Try.func24, Try.ntmps24
  go_wp2_with (first | ((with_reducible refine gate_dst (N := 3) rfl ?_); refine box_event ?hg (N := 3) ?hd (cs := #[.int .i64 a0_0, .int .i64 a0_1, .slice A0_2 l0_2.length c0_2, .int .i64 a0_3, .int .i64 a0_4, .int .i64 a0_5, .int .i64 a0_6, .int .i64 a0_7, .int .i64 a0_8]) (t := 24) ?hr ?_; (case hd => rfl); (case hg => rfl); (case hr => first | (go_simp; done) | (go_simp; rfl)); intro gb141 hg w22 hbox hb; have n0_ := Aside0.mk (below_step (by repeat (first | (with_reducible first | exact HB.out | apply below_alloc | apply pw_below_drewN | apply below_drew1) | exact HB.out)) hb); have n1_ := Aside0.mk (hbox); have n2_ := Aside0.mk ((by rw [hg]; exact (below_size (by repeat (first | (with_reducible first | exact HB.out | apply below_alloc | apply pw_below_drewN | apply below_drew1) | exact HB.out))) : w.heap.size ≤ gb141)); have n3_ := Aside0.mk ((by rw [hg]; exact (below_size (by repeat (first | (with_reducible first | exact HB.out | apply below_alloc | apply pw_below_drewN | apply below_drew1) | exact HB.out))) : w.heap.size ≤ gb141)); clear HB; have HB := n0_; have BK141 := n1_; have GW141 := n2_; have GE141 := n3_; clear n0_ n1_ n2_ n3_; clear hb hbox hg; have hcz23_0 : w22.cell? ⟨gb141, 0, none⟩ = some (.int .i64 a0_0) := (blk_cell BK141.out 0).trans rfl; have hcz23_1 : w22.cell? ⟨gb141, 1, none⟩ = some (.int .i64 a0_1) := (blk_cell BK141.out 1).trans rfl; have hcz23_2 : w22.cell? ⟨gb141, 2, none⟩ = some (.slice A0_2 l0_2.length c0_2) := (blk_cell BK141.out 2).trans rfl; have hcz23_3 : w22.cell? ⟨gb141, 3, none⟩ = some (.int .i64 a0_3) := (blk_cell BK141.out 3).trans rfl; have hcz23_4 : w22.cell? ⟨gb141, 4, none⟩ = some (.int .i64 a0_4) := (blk_cell BK141.out 4).trans rfl; have hcz23_5 : w22.cell? ⟨gb141, 5, none⟩ = some (.int .i64 a0_5) := (blk_cell BK141.out 5).trans rfl; have hcz23_6 : w22.cell? ⟨gb141, 6, none⟩ = some (.int .i64 a0_6) := (blk_cell BK141.out 6).trans rfl; have hcz23_7 : w22.cell? ⟨gb141, 7, none⟩ = some (.int .i64 a0_7) := (blk_cell BK141.out 7).trans rfl; have hcz23_8 : w22.cell? ⟨gb141, 8, none⟩ = some (.int .i64 a0_8) := (blk_cell BK141.out 8).trans rfl; have hfz23_0 := blk_frozen BK141.out 0; have hfz23_1 := blk_frozen BK141.out 1; have hfz23_2 := blk_frozen BK141.out 2; have hfz23_3 := blk_frozen BK141.out 3; have hfz23_4 := blk_frozen BK141.out 4; have hfz23_5 := blk_frozen BK141.out 5; have hfz23_6 := blk_frozen BK141.out 6; have hfz23_7 := blk_frozen BK141.out 7; have hfz23_8 := blk_frozen BK141.out 8) | ((with_reducible refine gate_callee (f := 49) rfl ?_); refine goesL_ (some 9) rfl rfl Try.func49 (by kernel_rfl) rfl #[.agg #[.int .i64 a0_0, .int .i64 a0_1, .slice A0_2 l0_2.length c0_2, .int .i64 a0_3, .int .i64 a0_4, .int .i64 a0_5, .int .i64 a0_6, .int .i64 a0_7, .int .i64 a0_8]] rfl (by (try simp only [List.map_toArray, List.map_cons, List.map_nil]); first | done | rfl | (simp only [List.length_drop, List.length_take]; rfl)) ?_; (with_reducible refine (unit_may.calls k a0_0 a0_1 _ _ l0_2 a0_3 a0_4 a0_5 a0_6 a0_7 a0_8 false _ ?side1 ?side2 A4.out).mono ?_); (case side1 => repeat (first | exact (Kd.C_below HR0_2.out HB.out) | (with_reducible refine Kd.C_alloc ?_ _) | (with_reducible refine Kd.C_drewN ?_ _) | (with_reducible refine Kd.C_drew ?_))); (case side2 => exact HC0_2.out); rintro e w24 ⟨rfl, hb⟩; refine ⟨_, rfl, ?_⟩; have n0_ := Aside0.mk (blk_below (g := gb141) (o := .cells #[.int .i64 a0_0, .int .i64 a0_1, .slice A0_2 l0_2.length c0_2, .int .i64 a0_3, .int .i64 a0_4, .int .i64 a0_5, .int .i64 a0_6, .int .i64 a0_7, .int .i64 a0_8] 24 (0, 0)) (by (with_reducible repeat (first | refine blk_drewN ?_ _ | refine blk_drew ?_ | refine blk_alloc ?_ _)); exact BK141.out) hb); have n1_ := Aside0.mk (below_step (by repeat (first | (with_reducible first | exact HB.out | apply below_alloc | apply pw_below_drewN | apply below_drew1 | refine below_set ?_ GE141.out) | exact HB.out)) hb); clear BK141; clear HB; have BK141 := n0_; have HB := n1_; clear n0_ n1_; (try clear hb); (try clear hb2); (try clear hk); (try clear hi)))
  go_ret2
  exact ⟨by first | rfl | (simp [errW_none, errW_some] <;> rfl) | (simp [*, errW_none, errW_some] <;> rfl), by repeat (first | (with_reducible first | exact HB.out | apply below_alloc | apply pw_below_drewN | apply below_drew1 | refine below_set ?_ GE141.out) | exact HB.out)⟩

end Go.Proofs.Ytelklgdmhnkenaa.U
