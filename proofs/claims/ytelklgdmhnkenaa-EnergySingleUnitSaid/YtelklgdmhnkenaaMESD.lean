/- Parts of the proof: Uxf34, Uxf49, Uxf50, Uxf23, PlainA, PlainQ, Uxf35, Uxf31, Uxf52, PlainS, Uxf71, Uxf92, Uxf72, Uxf93, Uxf73, GivenSo, GivenAd, GivenCm, GivenRo, PlainP, GivenEx, GivenAl, Uxf33, PlainT, PlainU, PlainV, PlainX, PlainY, PlainZ, Uxf36, Uxf53. -/
import Derived.Test.YtelklgdmhnkenaaMESA
import Derived.Test.YtelklgdmhnkenaaMESC
import Derived.Shelf.SlSortCmp.WholeK
import Derived.Shelf.SlicesG.Cmp
import Derived.Laws.EntriesVeiled
import Derived.Test.YtelklgdmhnkenaaMESB
import Derived.MapKept
set_option linter.unusedVariables false
set_option linter.unusedSimpArgs false
open Go.RowKit Go.Proofs.YtelklgdmhnkenaaW.PrintWords Go.Proofs.YtelklgdmhnkenaaW.PrintLast Go.Proofs.YtelklgdmhnkenaaW.PrintMore
namespace Go.Proofs.Ytelklgdmhnkenaa.U
attribute [local go_sem] max2_int min2_int max_two min_two max_three min_three max_four min_four
mutual
def unit_Check.j0 : Nat → Bool → Int → Int → List (S99) → Int → Int → Int → Int → Int → Int → Option (Int)
 | 0, _, _, _, _, _, _, _, _, _, _ => none
 | k + 1, x18, x111000, x111001, x111002, x111003, x111004, x111005, x111006, x111007, x111008 => if x18 = true then (some 1) else ((step_CheckOffer.f x111002).bind fun t112 => (if t112 = 0 then ((unit_Max.f k x111000 x111001 x111002 x111003 x111004 x111005 x111006 x111007 x111008).bind fun t113 => ((unit_within_int64.f x111001 0 t113).bind fun t114 => (if t114 = true then ((unit_within_int64.f x111007 0 1000000).bind fun t115 => (unit_Check.j1 k t115 x111000 x111001 x111002 x111003 x111004 x111005 x111006 x111007 x111008)) else (unit_Check.j1 k false x111000 x111001 x111002 x111003 x111004 x111005 x111006 x111007 x111008)))) else (some t112)))
def unit_Check.j1 : Nat → Bool → Int → Int → List (S99) → Int → Int → Int → Int → Int → Int → Option (Int)
 | 0, _, _, _, _, _, _, _, _, _, _ => none
 | k + 1, x6, x111000, x111001, x111002, x111003, x111004, x111005, x111006, x111007, x111008 => (unit_within_int.f x111003 1 6).bind fun t116 => (if t116 = true then ((unit_within_int.f x111004 1 6).bind fun t117 => (if t117 = true then ((unit_within_int.f x111008 (-6) 6).bind fun t118 => (if t118 = true then (unit_Check.j2 k x6 (x111008 != 0) x111000 x111001 x111002 x111003 x111004 x111005 x111006 x111007 x111008) else (unit_Check.j2 k x6 false x111000 x111001 x111002 x111003 x111004 x111005 x111006 x111007 x111008))) else (unit_Check.j2 k x6 false x111000 x111001 x111002 x111003 x111004 x111005 x111006 x111007 x111008))) else (unit_Check.j2 k x6 false x111000 x111001 x111002 x111003 x111004 x111005 x111006 x111007 x111008))
def unit_Check.j2 : Nat → Bool → Bool → Int → Int → List (S99) → Int → Int → Int → Int → Int → Int → Option (Int)
 | 0, _, _, _, _, _, _, _, _, _, _, _ => none
 | k + 1, x6, x7, x111000, x111001, x111002, x111003, x111004, x111005, x111006, x111007, x111008 => (unit_within_int64.f x111005 0 1000000000).bind fun t119 => (if t119 = true then ((unit_within_int64.f x111006 0 1000000000).bind fun t120 => (if x6 = true then (if x7 = true then (if t120 = true then (some 0) else (some 1)) else (some 1)) else (some 1))) else (if x6 = true then (if x7 = true then (some 1) else (some 1)) else (some 1)))
end
def unit_Check.f (k : Nat) (a0_0 : Int) (a0_1 : Int) (l0_2 : List (S99)) (a0_3 : Int) (a0_4 : Int) (a0_5 : Int) (a0_6 : Int) (a0_7 : Int) (a0_8 : Int) (a1 : Int) : Option (Int) := (unit_within_int.f a0_0 0 (wrap64 (a1 - 1))).bind fun t111 => (if t111 = true then (unit_Check.j0 k (decide (a1 < 1)) a0_0 a0_1 l0_2 a0_3 a0_4 a0_5 a0_6 a0_7 a0_8) else (unit_Check.j0 k true a0_0 a0_1 l0_2 a0_3 a0_4 a0_5 a0_6 a0_7 a0_8))
def unit_Check.T6 : Bool × List (List Nat × List Nat) := (true, [([], []), ([0], [0]), ([], []), ([2], [2]), ([1, 3, 3], [1, 3]), ([4, 4], [4]), ([5], [5]), ([6, 5], [5, 6]), ([7, 5, 5], [5, 7]), ([5, 8], [5, 8]), ([9, 8, 0, 1, 2, 3, 4, 5, 6, 7, 8, 9], [9])])
def unit_Check.B6 : List Nat := [0, 1, 0, 4, 15, 31, 63, 127, 255, 511, 1023]
theorem unit_Check.tab6 : rtab .any (opsOf Try.f34 6) = unit_Check.T6 := by kernel_rfl
theorem unit_Check.bits6 : waitsOk unit_Check.T6.2 unit_Check.B6 = true := by kernel_rfl
set_option maxHeartbeats 8000000 in
set_option maxRecDepth 100000 in
theorem unit_Check.calls (k : Nat) (a0_0 : Int) (a0_1 : Int) (A0_2 : Option Addr) (c0_2 : Nat) (l0_2 : List (S99)) (a0_3 : Int) (a0_4 : Int) (a0_5 : Int) (a0_6 : Int) (a0_7 : Int) (a0_8 : Int) (a1 : Int) (r : Int) (w : World) (hr0_2 : Kd.C k99 w A0_2 l0_2.length l0_2) (hc0_2 : l0_2.length ≤ c0_2) (h : unit_Check.f k a0_0 a0_1 l0_2 a0_3 a0_4 a0_5 a0_6 a0_7 a0_8 a1 = some r) :
  Calls Try.prog 34 #[.agg #[.int .i64 a0_0, .int .i64 a0_1, .slice A0_2 l0_2.length c0_2, .int .i64 a0_3, .int .i64 a0_4, .int .i64 a0_5, .int .i64 a0_6, .int .i64 a0_7, .int .i64 a0_8], .int .i64 a1] w fun e w' => e = .returned (.int .i64 r) ∧ Below w.heap.size w w' := by
 have HR0_2 := Aside0.mk hr0_2
 have HC0_2 := Aside0.mk hc0_2
 clear hr0_2 hc0_2
 have HB := Aside0.mk (Below.refl w.heap.size w)
 have H : ((unit_within_int.f a0_0 0 (wrap64 (a1 - 1))).bind fun t111 => (if t111 = true then (unit_Check.j0 k (decide (a1 < 1)) a0_0 a0_1 l0_2 a0_3 a0_4 a0_5 a0_6 a0_7 a0_8) else (unit_Check.j0 k true a0_0 a0_1 l0_2 a0_3 a0_4 a0_5 a0_6 a0_7 a0_8))) = some r := h
 clear h
 have HC3 := Aside0.mk H
 clear H
 go_enter Try.func34, Try.ntmps34
 go_upto_region 1 with (first | ((with_reducible refine gate_dst (N := 2) rfl ?_); refine box_event ?hg (N := 2) ?hd (cs := #[.int .i64 a0_0, .int .i64 a0_1, .slice A0_2 l0_2.length c0_2, .int .i64 a0_3, .int .i64 a0_4, .int .i64 a0_5, .int .i64 a0_6, .int .i64 a0_7, .int .i64 a0_8]) (t := 24) ?hr ?_; (case hd => rfl); (case hg => rfl); (case hr => exact hr_); intro gb110 hg w4 hbox hb; have BK110 := Aside0.mk (hbox); replace HB := Aside0.mk (below_step m_1 hb); clear hb hbox hg))
 (try simp only [Act.put, List.setIfInBounds_toArray, List.set_cons_zero, List.set_cons_succ])
 go_cut [18] (fun v18 wc => ∃ (kq : Nat) (x18_2 : Bool), v18 = .bool x18_2 ∧ Aside0 (unit_Check.j0 kq x18_2 a0_0 a0_1 l0_2 a0_3 a0_4 a0_5 a0_6 a0_7 a0_8 = some r) ∧ Aside0 (kq ≤ k) ∧ Aside0 (wc.heap[gb110]? = some (.cells #[.int .i64 a0_0, .int .i64 a0_1, (.slice A0_2 l0_2.length c0_2), .int .i64 a0_3, .int .i64 a0_4, .int .i64 a0_5, .int .i64 a0_6, .int .i64 a0_7, .int .i64 a0_8] 24 (0, 0))) ∧ Aside0 (Below w.heap.size w wc))
 case first =>
  have H := HC3.out
  clear HC3
  replace H := Option.bind_eq_some_iff.mp H
  obtain ⟨t111, A50, H⟩ := H
  replace H : (if t111 = true then (unit_Check.j0 k (decide (a1 < 1)) a0_0 a0_1 l0_2 a0_3 a0_4 a0_5 a0_6 a0_7 a0_8) else (unit_Check.j0 k true a0_0 a0_1 l0_2 a0_3 a0_4 a0_5 a0_6 a0_7 a0_8)) = some r := H
  have A5 := Aside0.mk A50
  clear A50
  by_cases c6 : t111 = true
  ·subst c6
   have H1 : (unit_Check.j0 k (decide (a1 < 1)) a0_0 a0_1 l0_2 a0_3 a0_4 a0_5 a0_6 a0_7 a0_8) = some r := by rw [if_pos rfl] at H; exact H
   clear H
   have H := H1
   clear H1
   have H' := Aside0.mk H
   clear H
   obtain ⟨hcz7_0, hcz7_1, hcz7_2, hcz7_3, hcz7_4, hcz7_5, hcz7_6, hcz7_7, hcz7_8, hfz7_0, hfz7_1, hfz7_2, hfz7_3, hfz7_4, hfz7_5, hfz7_6, hfz7_7, hfz7_8⟩ := cf9_ BK110
   go_wp2_with (first | ((with_reducible refine gate_callee (f := 45) rfl ?_); refine goesL_ (some 13) rfl rfl Try.func45 m_13 rfl #[.int .i64 a0_0, .int .i64 0, .int .i64 (wrap64 (a1 - 1))] rfl m_2 ?_; (with_reducible refine (unit_within_int.calls a0_0 0 (wrap64 (a1 - 1)) true _ A5.out).mono ?_); rintro e w' ⟨rfl, ⟨nd, rfl⟩⟩; refine ⟨_, rfl, ?_⟩))
   go_meet
   case rel => exact ⟨_, (decide (a1 < 1)), m_9, H', ⟨m_71⟩, ⟨m_58⟩, ⟨m_17⟩⟩
  ·replace c6 := Bool.eq_false_iff.mpr c6
   subst c6
   have H1 : (unit_Check.j0 k true a0_0 a0_1 l0_2 a0_3 a0_4 a0_5 a0_6 a0_7 a0_8) = some r := by rw [if_neg (show ¬ (false = true) by decide)] at H; exact H
   clear H
   have H := H1
   clear H1
   have H' := Aside0.mk H
   clear H
   obtain ⟨hcz8_0, hcz8_1, hcz8_2, hcz8_3, hcz8_4, hcz8_5, hcz8_6, hcz8_7, hcz8_8, hfz8_0, hfz8_1, hfz8_2, hfz8_3, hfz8_4, hfz8_5, hfz8_6, hfz8_7, hfz8_8⟩ := cf9_ BK110
   go_wp2_with (first | ((with_reducible refine gate_callee (f := 45) rfl ?_); refine goesL_ (some 13) rfl rfl Try.func45 m_13 rfl #[.int .i64 a0_0, .int .i64 0, .int .i64 (wrap64 (a1 - 1))] rfl m_2 ?_; (with_reducible refine (unit_within_int.calls a0_0 0 (wrap64 (a1 - 1)) false _ A5.out).mono ?_); rintro e w' ⟨rfl, ⟨nd, rfl⟩⟩; refine ⟨_, rfl, ?_⟩))
   go_meet
   case rel => exact ⟨_, (true), m_9, H', ⟨m_71⟩, ⟨m_58⟩, ⟨m_17⟩⟩
 case rest =>
  clear HC3
  (try clear p2); (try clear c3); (try clear c4); (try clear c6); (try clear p6); (try clear hcz7_0); (try clear hcz7_1); (try clear hcz7_2); (try clear hcz7_3); (try clear hcz7_4); (try clear hcz7_5); (try clear hcz7_6); (try clear hcz7_7); (try clear hcz7_8); (try clear hcz8_0); (try clear hcz8_1); (try clear hcz8_2); (try clear hcz8_3); (try clear hcz8_4); (try clear hcz8_5); (try clear hcz8_6); (try clear hcz8_7); (try clear hcz8_8); (try clear hfz7_0); (try clear hfz7_1); (try clear hfz7_2); (try clear hfz7_3); (try clear hfz7_4); (try clear hfz7_5); (try clear hfz7_6); (try clear hfz7_7); (try clear hfz7_8); (try clear hfz8_0); (try clear hfz8_1); (try clear hfz8_2); (try clear hfz8_3); (try clear hfz8_4); (try clear hfz8_5); (try clear hfz8_6); (try clear hfz8_7); (try clear hfz8_8)
  obtain ⟨kq, x18_2, rfl, HA, HJ2, BK110, HB⟩ := hcut
  cases kq with
  | zero => exact absurd HA.out (by simp [unit_Check.j0])
  | succ kj2 =>
   have H := HA.out
   clear HA
   simp only [unit_Check.j0] at H
   by_cases c9 : x18_2 = true
   ·subst c9
    have H1 : (some 1) = some r := by rw [if_pos rfl] at H; exact H
    clear H
    have H := H1
    clear H1
    obtain rfl := Option.some.inj H
    go_wp2
    go_ret
    exact ⟨m_5, m_17⟩
   ·replace c9 := Bool.eq_false_iff.mpr c9
    subst c9
    have H1 : ((step_CheckOffer.f l0_2).bind fun t112 => (if t112 = 0 then ((unit_Max.f kj2 a0_0 a0_1 l0_2 a0_3 a0_4 a0_5 a0_6 a0_7 a0_8).bind fun t113 => ((unit_within_int64.f a0_1 0 t113).bind fun t114 => (if t114 = true then ((unit_within_int64.f a0_7 0 1000000).bind fun t115 => (unit_Check.j1 kj2 t115 a0_0 a0_1 l0_2 a0_3 a0_4 a0_5 a0_6 a0_7 a0_8)) else (unit_Check.j1 kj2 false a0_0 a0_1 l0_2 a0_3 a0_4 a0_5 a0_6 a0_7 a0_8)))) else (some t112))) = some r := by rw [if_neg (show ¬ (false = true) by decide)] at H; exact H
    clear H
    have H := H1
    clear H1
    replace H := Option.bind_eq_some_iff.mp H
    obtain ⟨t112, A100, H⟩ := H
    replace H : (if t112 = 0 then ((unit_Max.f kj2 a0_0 a0_1 l0_2 a0_3 a0_4 a0_5 a0_6 a0_7 a0_8).bind fun t113 => ((unit_within_int64.f a0_1 0 t113).bind fun t114 => (if t114 = true then ((unit_within_int64.f a0_7 0 1000000).bind fun t115 => (unit_Check.j1 kj2 t115 a0_0 a0_1 l0_2 a0_3 a0_4 a0_5 a0_6 a0_7 a0_8)) else (unit_Check.j1 kj2 false a0_0 a0_1 l0_2 a0_3 a0_4 a0_5 a0_6 a0_7 a0_8)))) else (some t112)) = some r := H
    have A10 := Aside0.mk A100
    clear A100
    by_cases c11 : t112 = 0
    ·rw [if_pos c11] at H
     have c11b1 : (t112 != 0) = false := bne_eq_false_iff_eq.mpr c11
     clear c11
     have HC12 := Aside0.mk H
     clear H
     obtain ⟨hcz13_0, hcz13_1, hcz13_2, hcz13_3, hcz13_4, hcz13_5, hcz13_6, hcz13_7, hcz13_8, hfz13_0, hfz13_1, hfz13_2, hfz13_3, hfz13_4, hfz13_5, hfz13_6, hfz13_7, hfz13_8⟩ := cf9_ BK110
     go_upto_region 6 with (first | ((with_reducible refine gate_callee (f := 57) rfl ?_); refine goesL_ (some 21) rfl rfl Try.func57 m_13 rfl #[.slice A0_2 l0_2.length c0_2] rfl m_2 ?_; (with_reducible refine (step_CheckOffer.calls _ _ l0_2 t112 _ ?side1 ?side2 A10.out).mono ?_); (case side1 => exact cA_ (Kd.C_below HR0_2.out HB.out)); (case side2 => exact HC0_2.out); rintro e w14 ⟨rfl, hb⟩; refine ⟨_, rfl, ?_⟩; replace BK110 := bB_ BK110 hb; replace HB := Aside0.mk (below_step m_17 hb); clear hb))
     (try simp only [Act.put, List.setIfInBounds_toArray, List.set_cons_zero, List.set_cons_succ])
     go_cut [6] (fun v6 wc => ∃ (kq : Nat) (x6_11 : Bool), v6 = .bool x6_11 ∧ Aside0 (unit_Check.j1 kq x6_11 a0_0 a0_1 l0_2 a0_3 a0_4 a0_5 a0_6 a0_7 a0_8 = some r) ∧ Aside0 (kq ≤ kj2) ∧ Aside0 (wc.heap[gb110]? = some (.cells #[.int .i64 a0_0, .int .i64 a0_1, (.slice A0_2 l0_2.length c0_2), .int .i64 a0_3, .int .i64 a0_4, .int .i64 a0_5, .int .i64 a0_6, .int .i64 a0_7, .int .i64 a0_8] 24 (0, 0))) ∧ Aside0 (Below w.heap.size w wc))
     case first =>
      have H := HC12.out
      clear HC12
      replace H := Option.bind_eq_some_iff.mp H
      obtain ⟨t113, A150, H⟩ := H
      replace H : ((unit_within_int64.f a0_1 0 t113).bind fun t114 => (if t114 = true then ((unit_within_int64.f a0_7 0 1000000).bind fun t115 => (unit_Check.j1 kj2 t115 a0_0 a0_1 l0_2 a0_3 a0_4 a0_5 a0_6 a0_7 a0_8)) else (unit_Check.j1 kj2 false a0_0 a0_1 l0_2 a0_3 a0_4 a0_5 a0_6 a0_7 a0_8))) = some r := H
      have A15 := Aside0.mk A150
      clear A150
      replace H := Option.bind_eq_some_iff.mp H
      obtain ⟨t114, A160, H⟩ := H
      replace H : (if t114 = true then ((unit_within_int64.f a0_7 0 1000000).bind fun t115 => (unit_Check.j1 kj2 t115 a0_0 a0_1 l0_2 a0_3 a0_4 a0_5 a0_6 a0_7 a0_8)) else (unit_Check.j1 kj2 false a0_0 a0_1 l0_2 a0_3 a0_4 a0_5 a0_6 a0_7 a0_8)) = some r := H
      have A16 := Aside0.mk A160
      clear A160
      try go_wp2
      replace BK110 := bD_ BK110
      replace HB := Aside0.mk (below_drew1 HB.out)
      refine start_ (n := 11) (S := fun w' => w'.cell? ⟨gb110, 0, none⟩ = some (.int .i64 a0_0) ∧ w'.cell? ⟨gb110, 1, none⟩ = some (.int .i64 a0_1) ∧ w'.cell? ⟨gb110, 2, none⟩ = some (.slice A0_2 l0_2.length c0_2) ∧ w'.cell? ⟨gb110, 3, none⟩ = some (.int .i64 a0_3) ∧ w'.cell? ⟨gb110, 4, none⟩ = some (.int .i64 a0_4) ∧ w'.cell? ⟨gb110, 5, none⟩ = some (.int .i64 a0_5) ∧ w'.cell? ⟨gb110, 6, none⟩ = some (.int .i64 a0_6) ∧ w'.cell? ⟨gb110, 7, none⟩ = some (.int .i64 a0_7) ∧ w'.cell? ⟨gb110, 8, none⟩ = some (.int .i64 a0_8)) (ds := []) #[false, false, false, false, false, false, false, false, false, false, false] m_13 rfl rfl ⟨(blk_cell BK110.out 0).trans rfl, (blk_cell BK110.out 1).trans rfl, (blk_cell BK110.out 2).trans rfl, (blk_cell BK110.out 3).trans rfl, (blk_cell BK110.out 4).trans rfl, (blk_cell BK110.out 5).trans rfl, (blk_cell BK110.out 6).trans rfl, (blk_cell BK110.out 7).trans rfl, (blk_cell BK110.out 8).trans rfl⟩ (fun hHeld => ?_); refine with_tabW unit_Check.tab6 unit_Check.bits6 (fun HT_ HW_ => ?_)
      generalize w14.drew = w19 at BK110 HB hHeld ⊢
      refine pA_ 0 HT_.out ?_
      refine tA_ 1 HT_.out HW_.out hHeld ?_
      refine tA_ 2 HT_.out HW_.out hHeld ?_
      refine cB_1 3 Try.func37 (args := #[.agg #[.int .i64 a0_0, .int .i64 a0_1, .slice A0_2 l0_2.length c0_2, .int .i64 a0_3, .int .i64 a0_4, .int .i64 a0_5, .int .i64 a0_6, .int .i64 a0_7, .int .i64 a0_8]]) ?_
      with_reducible refine (unit_Max.calls kj2 a0_0 a0_1 _ _ l0_2 a0_3 a0_4 a0_5 a0_6 a0_7 a0_8 t113 _ ?side1 ?side2 A15.out).mono ?_
      (case side1 => exact cA_ (Kd.C_below HR0_2.out HB.out))
      (case side2 => exact HC0_2.out)
      rintro e w20 ⟨rfl, hb⟩
      refine ⟨_, rfl, ?_⟩
      replace BK110 := bB_ BK110 hb
      replace HB := Aside0.mk (below_step m_17 hb)
      (try clear hb); (try clear hb2); (try clear hk); (try clear hi)
      refine nx_ ⟨(blk_cell BK110.out 0).trans rfl, (blk_cell BK110.out 1).trans rfl, (blk_cell BK110.out 2).trans rfl, (blk_cell BK110.out 3).trans rfl, (blk_cell BK110.out 4).trans rfl, (blk_cell BK110.out 5).trans rfl, (blk_cell BK110.out 6).trans rfl, (blk_cell BK110.out 7).trans rfl, (blk_cell BK110.out 8).trans rfl⟩ (fun hHeld => ?_)
      refine one_ (i := 4) (N := some 29) #[true, true, true, true, true, false, false, false, false, false, false] rfl rfl (one_of HT_.out m_13) (by decide) (fun K hK => ?_)
      refine goes_ Try.func58 m_13 rfl #[.int .i64 a0_1, .int .i64 0, .int .i64 t113] (by rfl) rfl rfl m_2 ?_
      by_cases c17 : t114 = true
      ·subst c17
       have H1 : ((unit_within_int64.f a0_7 0 1000000).bind fun t115 => (unit_Check.j1 kj2 t115 a0_0 a0_1 l0_2 a0_3 a0_4 a0_5 a0_6 a0_7 a0_8)) = some r := by rw [if_pos rfl] at H; exact H
       clear H
       have H := H1
       clear H1
       replace H := Option.bind_eq_some_iff.mp H
       obtain ⟨t115, A180, H⟩ := H
       replace H : (unit_Check.j1 kj2 t115 a0_0 a0_1 l0_2 a0_3 a0_4 a0_5 a0_6 a0_7 a0_8) = some r := H
       have A18 := Aside0.mk A180
       clear A180
       have H' := Aside0.mk H
       clear H
       with_reducible refine (unit_within_int64.calls a0_1 0 t113 true _ A16.out).mono ?_
       rintro e w' ⟨rfl, ⟨nd, rfl⟩⟩
       refine ⟨_, rfl, ?_⟩
       refine hK.out _ _ ⟨(blk_cell BK110.out 0).trans rfl, (blk_cell BK110.out 1).trans rfl, (blk_cell BK110.out 2).trans rfl, (blk_cell BK110.out 3).trans rfl, (blk_cell BK110.out 4).trans rfl, (blk_cell BK110.out 5).trans rfl, (blk_cell BK110.out 6).trans rfl, (blk_cell BK110.out 7).trans rfl, (blk_cell BK110.out 8).trans rfl⟩ (fun hHeld => ?_)
       clear hK K
       refine norm_ (a' := ?_) ?_ ?_
       rotate_left
       ·show Act.put _ (some 29) _ = _
        simp only [Act.put, List.setIfInBounds_toArray, List.set_cons_zero, List.set_cons_succ, i64_w, i32_w]
        rfl
       refine pA_ 5 HT_.out ?_
       refine pA_ 6 HT_.out ?_
       refine tA_ 7 HT_.out HW_.out hHeld ?_
       refine cB_1 8 Try.func58 (args := #[.int .i64 a0_7, .int .i64 0, .int .i64 1000000]) ?_
       with_reducible refine (unit_within_int64.calls a0_7 0 1000000 t115 _ A18.out).mono ?_
       rintro e w' ⟨rfl, ⟨nd, rfl⟩⟩
       refine ⟨_, rfl, ?_⟩
       refine nx_ ⟨(blk_cell BK110.out 0).trans rfl, (blk_cell BK110.out 1).trans rfl, (blk_cell BK110.out 2).trans rfl, (blk_cell BK110.out 3).trans rfl, (blk_cell BK110.out 4).trans rfl, (blk_cell BK110.out 5).trans rfl, (blk_cell BK110.out 6).trans rfl, (blk_cell BK110.out 7).trans rfl, (blk_cell BK110.out 8).trans rfl⟩ (fun hHeld => ?_)
       refine pA_ 9 HT_.out ?_
       refine pA_ 10 HT_.out ?_
       refine done_ (done_of HT_.out m_13) ?_
       try go_wp2
       go_meet
       case rel => exact ⟨_, (t115), m_9, H', ⟨(by have := HJ2.out; first | omega | exact Nat.le_refl _)⟩, ⟨m_58⟩, ⟨m_17⟩⟩
      ·replace c17 := Bool.eq_false_iff.mpr c17
       subst c17
       have H1 : (unit_Check.j1 kj2 false a0_0 a0_1 l0_2 a0_3 a0_4 a0_5 a0_6 a0_7 a0_8) = some r := by rw [if_neg (show ¬ (false = true) by decide)] at H; exact H
       clear H
       have H := H1
       clear H1
       have H' := Aside0.mk H
       clear H
       with_reducible refine (unit_within_int64.calls a0_1 0 t113 false _ A16.out).mono ?_
       rintro e w' ⟨rfl, ⟨nd, rfl⟩⟩
       refine ⟨_, rfl, ?_⟩
       refine hK.out _ _ ⟨(blk_cell BK110.out 0).trans rfl, (blk_cell BK110.out 1).trans rfl, (blk_cell BK110.out 2).trans rfl, (blk_cell BK110.out 3).trans rfl, (blk_cell BK110.out 4).trans rfl, (blk_cell BK110.out 5).trans rfl, (blk_cell BK110.out 6).trans rfl, (blk_cell BK110.out 7).trans rfl, (blk_cell BK110.out 8).trans rfl⟩ (fun hHeld => ?_)
       clear hK K
       refine norm_ (a' := ?_) ?_ ?_
       rotate_left
       ·show Act.put _ (some 29) _ = _
        simp only [Act.put, List.setIfInBounds_toArray, List.set_cons_zero, List.set_cons_succ, i64_w, i32_w]
        rfl
       refine pA_ 5 HT_.out ?_
       refine pure_ (i := 6) (N := some 31) (v := undef) (a' := ?_) #[true, true, true, true, true, true, true, false, false, false, false] rfl rfl (any_of HT_.out m_13) (fun _ _ _ h => h) (Or.inr ⟨(by rfl), rfl⟩) ?_ ?_
       rotate_left
       ·simp only [Act.put, List.setIfInBounds_toArray, List.set_cons_zero, List.set_cons_succ, i64_w, i32_w]
        rfl
       refine pure_ (i := 7) (N := some 32) (v := undef) (a' := ?_) #[true, true, true, true, true, true, true, true, false, false, false] rfl rfl (any_of HT_.out m_13) (fun _ _ _ h => h) (Or.inr ⟨(by rfl), rfl⟩) ?_ ?_
       rotate_left
       ·simp only [Act.put, List.setIfInBounds_toArray, List.set_cons_zero, List.set_cons_succ, i64_w, i32_w]
        rfl
       refine pure_ (i := 8) (N := some 33) (v := undef) (a' := ?_) #[true, true, true, true, true, true, true, true, true, false, false] rfl rfl (any_of HT_.out m_13) (fun _ _ _ h => h) (Or.inr ⟨(by rfl), rfl⟩) ?_ ?_
       rotate_left
       ·simp only [Act.put, List.setIfInBounds_toArray, List.set_cons_zero, List.set_cons_succ, i64_w, i32_w]
        rfl
       refine pA_ 9 HT_.out ?_
       refine pA_ 10 HT_.out ?_
       refine done_ (done_of HT_.out m_13) ?_
       try go_wp2
       go_meet
       case rel => exact ⟨_, (false), m_9, H', ⟨(by have := HJ2.out; first | omega | exact Nat.le_refl _)⟩, ⟨m_58⟩, ⟨m_17⟩⟩
     case rest =>
      clear HC12
      (try clear c1); (try clear p2); (try clear c3); (try clear c4); (try clear c5); (try clear c6); (try clear p6); (try clear c9); (try clear c11); (try skip); (try clear c11b1); (try clear c17); (try clear hcz13_0); (try clear hcz13_1); (try clear hcz13_2); (try clear hcz13_3); (try clear hcz13_4); (try clear hcz13_5); (try clear hcz13_6); (try clear hcz13_7); (try clear hcz13_8); (try clear hcz7_0); (try clear hcz7_1); (try clear hcz7_2); (try clear hcz7_3); (try clear hcz7_4); (try clear hcz7_5); (try clear hcz7_6); (try clear hcz7_7); (try clear hcz7_8); (try clear hcz8_0); (try clear hcz8_1); (try clear hcz8_2); (try clear hcz8_3); (try clear hcz8_4); (try clear hcz8_5); (try clear hcz8_6); (try clear hcz8_7); (try clear hcz8_8); (try clear hfz13_0); (try clear hfz13_1); (try clear hfz13_2); (try clear hfz13_3); (try clear hfz13_4); (try clear hfz13_5); (try clear hfz13_6); (try clear hfz13_7); (try clear hfz13_8); (try clear hfz7_0); (try clear hfz7_1); (try clear hfz7_2); (try clear hfz7_3); (try clear hfz7_4); (try clear hfz7_5); (try clear hfz7_6); (try clear hfz7_7); (try clear hfz7_8); (try clear hfz8_0); (try clear hfz8_1); (try clear hfz8_2); (try clear hfz8_3); (try clear hfz8_4); (try clear hfz8_5); (try clear hfz8_6); (try clear hfz8_7); (try clear hfz8_8); (try clear p2); (try clear p6)
      obtain ⟨kq, x6_11, rfl, HA, HJ11, BK110, HB⟩ := hcut
      cases kq with
      | zero => exact absurd HA.out (by simp [unit_Check.j1])
      | succ kj11 =>
       have H := HA.out
       clear HA
       simp only [unit_Check.j1] at H
       have HC23 := Aside0.mk H
       clear H
       go_upto_region 7 with (fail)
       go_cut [7] (fun v7 wc => ∃ (kq : Nat) (x7_22 : Bool), v7 = .bool x7_22 ∧ Aside0 (unit_Check.j2 kq x6_11 x7_22 a0_0 a0_1 l0_2 a0_3 a0_4 a0_5 a0_6 a0_7 a0_8 = some r) ∧ Aside0 (kq ≤ kj11) ∧ Aside0 (wc.heap[gb110]? = some (.cells #[.int .i64 a0_0, .int .i64 a0_1, (.slice A0_2 l0_2.length c0_2), .int .i64 a0_3, .int .i64 a0_4, .int .i64 a0_5, .int .i64 a0_6, .int .i64 a0_7, .int .i64 a0_8] 24 (0, 0))) ∧ Aside0 (Below w.heap.size w wc))
       case first =>
        have H := HC23.out
        clear HC23
        replace H := Option.bind_eq_some_iff.mp H
        obtain ⟨t116, A240, H⟩ := H
        replace H : (if t116 = true then ((unit_within_int.f a0_4 1 6).bind fun t117 => (if t117 = true then ((unit_within_int.f a0_8 (-6) 6).bind fun t118 => (if t118 = true then (unit_Check.j2 kj11 x6_11 (a0_8 != 0) a0_0 a0_1 l0_2 a0_3 a0_4 a0_5 a0_6 a0_7 a0_8) else (unit_Check.j2 kj11 x6_11 false a0_0 a0_1 l0_2 a0_3 a0_4 a0_5 a0_6 a0_7 a0_8))) else (unit_Check.j2 kj11 x6_11 false a0_0 a0_1 l0_2 a0_3 a0_4 a0_5 a0_6 a0_7 a0_8))) else (unit_Check.j2 kj11 x6_11 false a0_0 a0_1 l0_2 a0_3 a0_4 a0_5 a0_6 a0_7 a0_8)) = some r := H
        have A24 := Aside0.mk A240
        clear A240
        by_cases c25 : t116 = true
        ·subst c25
         have H1 : ((unit_within_int.f a0_4 1 6).bind fun t117 => (if t117 = true then ((unit_within_int.f a0_8 (-6) 6).bind fun t118 => (if t118 = true then (unit_Check.j2 kj11 x6_11 (a0_8 != 0) a0_0 a0_1 l0_2 a0_3 a0_4 a0_5 a0_6 a0_7 a0_8) else (unit_Check.j2 kj11 x6_11 false a0_0 a0_1 l0_2 a0_3 a0_4 a0_5 a0_6 a0_7 a0_8))) else (unit_Check.j2 kj11 x6_11 false a0_0 a0_1 l0_2 a0_3 a0_4 a0_5 a0_6 a0_7 a0_8))) = some r := by rw [if_pos rfl] at H; exact H
         clear H
         have H := H1
         clear H1
         replace H := Option.bind_eq_some_iff.mp H
         obtain ⟨t117, A260, H⟩ := H
         replace H : (if t117 = true then ((unit_within_int.f a0_8 (-6) 6).bind fun t118 => (if t118 = true then (unit_Check.j2 kj11 x6_11 (a0_8 != 0) a0_0 a0_1 l0_2 a0_3 a0_4 a0_5 a0_6 a0_7 a0_8) else (unit_Check.j2 kj11 x6_11 false a0_0 a0_1 l0_2 a0_3 a0_4 a0_5 a0_6 a0_7 a0_8))) else (unit_Check.j2 kj11 x6_11 false a0_0 a0_1 l0_2 a0_3 a0_4 a0_5 a0_6 a0_7 a0_8)) = some r := H
         have A26 := Aside0.mk A260
         clear A260
         by_cases c27 : t117 = true
         ·subst c27
          have H1 : ((unit_within_int.f a0_8 (-6) 6).bind fun t118 => (if t118 = true then (unit_Check.j2 kj11 x6_11 (a0_8 != 0) a0_0 a0_1 l0_2 a0_3 a0_4 a0_5 a0_6 a0_7 a0_8) else (unit_Check.j2 kj11 x6_11 false a0_0 a0_1 l0_2 a0_3 a0_4 a0_5 a0_6 a0_7 a0_8))) = some r := by rw [if_pos rfl] at H; exact H
          clear H
          have H := H1
          clear H1
          replace H := Option.bind_eq_some_iff.mp H
          obtain ⟨t118, A280, H⟩ := H
          replace H : (if t118 = true then (unit_Check.j2 kj11 x6_11 (a0_8 != 0) a0_0 a0_1 l0_2 a0_3 a0_4 a0_5 a0_6 a0_7 a0_8) else (unit_Check.j2 kj11 x6_11 false a0_0 a0_1 l0_2 a0_3 a0_4 a0_5 a0_6 a0_7 a0_8)) = some r := H
          have A28 := Aside0.mk A280
          clear A280
          by_cases c29 : t118 = true
          ·subst c29
           have H1 : (unit_Check.j2 kj11 x6_11 (a0_8 != 0) a0_0 a0_1 l0_2 a0_3 a0_4 a0_5 a0_6 a0_7 a0_8) = some r := by rw [if_pos rfl] at H; exact H
           clear H
           have H := H1
           clear H1
           have H' := Aside0.mk H
           clear H
           obtain ⟨hcz30_0, hcz30_1, hcz30_2, hcz30_3, hcz30_4, hcz30_5, hcz30_6, hcz30_7, hcz30_8, hfz30_0, hfz30_1, hfz30_2, hfz30_3, hfz30_4, hfz30_5, hfz30_6, hfz30_7, hfz30_8⟩ := cf9_ BK110
           go_wp2_with (first | ((with_reducible refine gate_callee (f := 45) rfl ?_); refine goesL_ (some 37) rfl rfl Try.func45 m_13 rfl #[.int .i64 a0_3, .int .i64 1, .int .i64 6] rfl m_2 ?_; (with_reducible refine (unit_within_int.calls a0_3 1 6 true _ A24.out).mono ?_); rintro e w' ⟨rfl, ⟨nd, rfl⟩⟩; refine ⟨_, rfl, ?_⟩) | (go_at_call 45; (with_reducible refine (unit_within_int.calls a0_4 1 6 true _ A26.out).mono ?_); rintro e w' ⟨rfl, ⟨nd, rfl⟩⟩) | (go_at_call 45; (with_reducible refine (unit_within_int.calls a0_8 (-6) 6 true _ A28.out).mono ?_); rintro e w' ⟨rfl, ⟨nd, rfl⟩⟩))
           go_meet
           case rel => exact ⟨_, ((a0_8 != 0)), m_9, H', ⟨m_121⟩, ⟨m_58⟩, ⟨m_17⟩⟩
          ·replace c29 := Bool.eq_false_iff.mpr c29
           subst c29
           have H1 : (unit_Check.j2 kj11 x6_11 false a0_0 a0_1 l0_2 a0_3 a0_4 a0_5 a0_6 a0_7 a0_8) = some r := by rw [if_neg (show ¬ (false = true) by decide)] at H; exact H
           clear H
           have H := H1
           clear H1
           have H' := Aside0.mk H
           clear H
           obtain ⟨hcz31_0, hcz31_1, hcz31_2, hcz31_3, hcz31_4, hcz31_5, hcz31_6, hcz31_7, hcz31_8, hfz31_0, hfz31_1, hfz31_2, hfz31_3, hfz31_4, hfz31_5, hfz31_6, hfz31_7, hfz31_8⟩ := cf9_ BK110
           go_wp2_with (first | ((with_reducible refine gate_callee (f := 45) rfl ?_); refine goesL_ (some 37) rfl rfl Try.func45 m_13 rfl #[.int .i64 a0_3, .int .i64 1, .int .i64 6] rfl m_2 ?_; (with_reducible refine (unit_within_int.calls a0_3 1 6 true _ A24.out).mono ?_); rintro e w' ⟨rfl, ⟨nd, rfl⟩⟩; refine ⟨_, rfl, ?_⟩) | (go_at_call 45; (with_reducible refine (unit_within_int.calls a0_4 1 6 true _ A26.out).mono ?_); rintro e w' ⟨rfl, ⟨nd, rfl⟩⟩) | (go_at_call 45; (with_reducible refine (unit_within_int.calls a0_8 (-6) 6 false _ A28.out).mono ?_); rintro e w' ⟨rfl, ⟨nd, rfl⟩⟩))
           go_meet
           case rel => exact ⟨_, (false), m_9, H', ⟨m_121⟩, ⟨m_58⟩, ⟨m_17⟩⟩
         ·replace c27 := Bool.eq_false_iff.mpr c27
          subst c27
          have H1 : (unit_Check.j2 kj11 x6_11 false a0_0 a0_1 l0_2 a0_3 a0_4 a0_5 a0_6 a0_7 a0_8) = some r := by rw [if_neg (show ¬ (false = true) by decide)] at H; exact H
          clear H
          have H := H1
          clear H1
          have H' := Aside0.mk H
          clear H
          obtain ⟨hcz32_0, hcz32_1, hcz32_2, hcz32_3, hcz32_4, hcz32_5, hcz32_6, hcz32_7, hcz32_8, hfz32_0, hfz32_1, hfz32_2, hfz32_3, hfz32_4, hfz32_5, hfz32_6, hfz32_7, hfz32_8⟩ := cf9_ BK110
          go_wp2_with (first | ((with_reducible refine gate_callee (f := 45) rfl ?_); refine goesL_ (some 37) rfl rfl Try.func45 m_13 rfl #[.int .i64 a0_3, .int .i64 1, .int .i64 6] rfl m_2 ?_; (with_reducible refine (unit_within_int.calls a0_3 1 6 true _ A24.out).mono ?_); rintro e w' ⟨rfl, ⟨nd, rfl⟩⟩; refine ⟨_, rfl, ?_⟩) | (go_at_call 45; (with_reducible refine (unit_within_int.calls a0_4 1 6 false _ A26.out).mono ?_); rintro e w' ⟨rfl, ⟨nd, rfl⟩⟩))
          go_meet
          case rel => exact ⟨_, (false), m_9, H', ⟨m_121⟩, ⟨m_58⟩, ⟨m_17⟩⟩
        ·replace c25 := Bool.eq_false_iff.mpr c25
         subst c25
         have H1 : (unit_Check.j2 kj11 x6_11 false a0_0 a0_1 l0_2 a0_3 a0_4 a0_5 a0_6 a0_7 a0_8) = some r := by rw [if_neg (show ¬ (false = true) by decide)] at H; exact H
         clear H
         have H := H1
         clear H1
         have H' := Aside0.mk H
         clear H
         obtain ⟨hcz33_0, hcz33_1, hcz33_2, hcz33_3, hcz33_4, hcz33_5, hcz33_6, hcz33_7, hcz33_8, hfz33_0, hfz33_1, hfz33_2, hfz33_3, hfz33_4, hfz33_5, hfz33_6, hfz33_7, hfz33_8⟩ := cf9_ BK110
         go_wp2_with (first | ((with_reducible refine gate_callee (f := 45) rfl ?_); refine goesL_ (some 37) rfl rfl Try.func45 m_13 rfl #[.int .i64 a0_3, .int .i64 1, .int .i64 6] rfl m_2 ?_; (with_reducible refine (unit_within_int.calls a0_3 1 6 false _ A24.out).mono ?_); rintro e w' ⟨rfl, ⟨nd, rfl⟩⟩; refine ⟨_, rfl, ?_⟩))
         go_meet
         case rel => exact ⟨_, (false), m_9, H', ⟨m_121⟩, ⟨m_58⟩, ⟨m_17⟩⟩
       case rest =>
        clear HC23
        (try clear c1); (try clear c2); (try clear p2); (try clear c3); (try clear c4); (try clear c5); (try clear c6); (try clear p6); (try clear c9); (try clear c11); (try skip); (try clear c11b1); (try clear c17); (try clear c25); (try clear c27); (try clear c29); (try clear hcz13_0); (try clear hcz13_1); (try clear hcz13_2); (try clear hcz13_3); (try clear hcz13_4); (try clear hcz13_5); (try clear hcz13_6); (try clear hcz13_7); (try clear hcz13_8); (try clear hcz30_0); (try clear hcz30_1); (try clear hcz30_2); (try clear hcz30_3); (try clear hcz30_4); (try clear hcz30_5); (try clear hcz30_6); (try clear hcz30_7); (try clear hcz30_8); (try clear hcz31_0); (try clear hcz31_1); (try clear hcz31_2); (try clear hcz31_3); (try clear hcz31_4); (try clear hcz31_5); (try clear hcz31_6); (try clear hcz31_7); (try clear hcz31_8); (try clear hcz32_0); (try clear hcz32_1); (try clear hcz32_2); (try clear hcz32_3); (try clear hcz32_4); (try clear hcz32_5); (try clear hcz32_6); (try clear hcz32_7); (try clear hcz32_8); (try clear hcz33_0); (try clear hcz33_1); (try clear hcz33_2); (try clear hcz33_3); (try clear hcz33_4); (try clear hcz33_5); (try clear hcz33_6); (try clear hcz33_7); (try clear hcz33_8); (try clear hcz7_0); (try clear hcz7_1); (try clear hcz7_2); (try clear hcz7_3); (try clear hcz7_4); (try clear hcz7_5); (try clear hcz7_6); (try clear hcz7_7); (try clear hcz7_8); (try clear hcz8_0); (try clear hcz8_1); (try clear hcz8_2); (try clear hcz8_3); (try clear hcz8_4); (try clear hcz8_5); (try clear hcz8_6); (try clear hcz8_7); (try clear hcz8_8); (try clear hfz13_0); (try clear hfz13_1); (try clear hfz13_2); (try clear hfz13_3); (try clear hfz13_4); (try clear hfz13_5); (try clear hfz13_6); (try clear hfz13_7); (try clear hfz13_8); (try clear hfz30_0); (try clear hfz30_1); (try clear hfz30_2); (try clear hfz30_3); (try clear hfz30_4); (try clear hfz30_5); (try clear hfz30_6); (try clear hfz30_7); (try clear hfz30_8); (try clear hfz31_0); (try clear hfz31_1); (try clear hfz31_2); (try clear hfz31_3); (try clear hfz31_4); (try clear hfz31_5); (try clear hfz31_6); (try clear hfz31_7); (try clear hfz31_8); (try clear hfz32_0); (try clear hfz32_1); (try clear hfz32_2); (try clear hfz32_3); (try clear hfz32_4); (try clear hfz32_5); (try clear hfz32_6); (try clear hfz32_7); (try clear hfz32_8); (try clear hfz33_0); (try clear hfz33_1); (try clear hfz33_2); (try clear hfz33_3); (try clear hfz33_4); (try clear hfz33_5); (try clear hfz33_6); (try clear hfz33_7); (try clear hfz33_8); (try clear hfz7_0); (try clear hfz7_1); (try clear hfz7_2); (try clear hfz7_3); (try clear hfz7_4); (try clear hfz7_5); (try clear hfz7_6); (try clear hfz7_7); (try clear hfz7_8); (try clear hfz8_0); (try clear hfz8_1); (try clear hfz8_2); (try clear hfz8_3); (try clear hfz8_4); (try clear hfz8_5); (try clear hfz8_6); (try clear hfz8_7); (try clear hfz8_8); (try clear p2); (try clear p6)
        obtain ⟨kq, x7_22, rfl, HA, HJ22, BK110, HB⟩ := hcut
        cases kq with
        | zero => exact absurd HA.out (by simp [unit_Check.j2])
        | succ kj22 =>
         have H := HA.out
         clear HA
         simp only [unit_Check.j2] at H
         replace H := Option.bind_eq_some_iff.mp H
         obtain ⟨t119, A340, H⟩ := H
         replace H : (if t119 = true then ((unit_within_int64.f a0_6 0 1000000000).bind fun t120 => (if x6_11 = true then (if x7_22 = true then (if t120 = true then (some 0) else (some 1)) else (some 1)) else (some 1))) else (if x6_11 = true then (if x7_22 = true then (some 1) else (some 1)) else (some 1))) = some r := H
         have A34 := Aside0.mk A340
         clear A340
         by_cases c35 : t119 = true
         ·subst c35
          have H1 : ((unit_within_int64.f a0_6 0 1000000000).bind fun t120 => (if x6_11 = true then (if x7_22 = true then (if t120 = true then (some 0) else (some 1)) else (some 1)) else (some 1))) = some r := by rw [if_pos rfl] at H; exact H
          clear H
          have H := H1
          clear H1
          replace H := Option.bind_eq_some_iff.mp H
          obtain ⟨t120, A360, H⟩ := H
          replace H : (if x6_11 = true then (if x7_22 = true then (if t120 = true then (some 0) else (some 1)) else (some 1)) else (some 1)) = some r := H
          have A36 := Aside0.mk A360
          clear A360
          by_cases c37 : x6_11 = true
          ·subst c37
           have H1 : (if x7_22 = true then (if t120 = true then (some 0) else (some 1)) else (some 1)) = some r := by rw [if_pos rfl] at H; exact H
           clear H
           have H := H1
           clear H1
           by_cases c38 : x7_22 = true
           ·subst c38
            have H1 : (if t120 = true then (some 0) else (some 1)) = some r := by rw [if_pos rfl] at H; exact H
            clear H
            have H := H1
            clear H1
            by_cases c39 : t120 = true
            ·subst c39
             have H1 : (some 0) = some r := by rw [if_pos rfl] at H; exact H
             clear H
             have H := H1
             clear H1
             obtain rfl := Option.some.inj H
             obtain ⟨hcz40_0, hcz40_1, hcz40_2, hcz40_3, hcz40_4, hcz40_5, hcz40_6, hcz40_7, hcz40_8, hfz40_0, hfz40_1, hfz40_2, hfz40_3, hfz40_4, hfz40_5, hfz40_6, hfz40_7, hfz40_8⟩ := cf9_ BK110
             go_wp2_with (first | ((with_reducible refine gate_callee (f := 58) rfl ?_); refine goesL_ (some 55) rfl rfl Try.func58 m_13 rfl #[.int .i64 a0_5, .int .i64 0, .int .i64 1000000000] rfl m_2 ?_; (with_reducible refine (unit_within_int64.calls a0_5 0 1000000000 true _ A34.out).mono ?_); rintro e w' ⟨rfl, ⟨nd, rfl⟩⟩; refine ⟨_, rfl, ?_⟩) | (go_at_call 58; (with_reducible refine (unit_within_int64.calls a0_6 0 1000000000 true _ A36.out).mono ?_); rintro e w' ⟨rfl, ⟨nd, rfl⟩⟩))
             go_ret
             exact ⟨m_5, m_17⟩
            ·replace c39 := Bool.eq_false_iff.mpr c39
             subst c39
             have H1 : (some 1) = some r := by rw [if_neg (show ¬ (false = true) by decide)] at H; exact H
             clear H
             have H := H1
             clear H1
             obtain rfl := Option.some.inj H
             obtain ⟨hcz41_0, hcz41_1, hcz41_2, hcz41_3, hcz41_4, hcz41_5, hcz41_6, hcz41_7, hcz41_8, hfz41_0, hfz41_1, hfz41_2, hfz41_3, hfz41_4, hfz41_5, hfz41_6, hfz41_7, hfz41_8⟩ := cf9_ BK110
             go_wp2_with (first | ((with_reducible refine gate_callee (f := 58) rfl ?_); refine goesL_ (some 55) rfl rfl Try.func58 m_13 rfl #[.int .i64 a0_5, .int .i64 0, .int .i64 1000000000] rfl m_2 ?_; (with_reducible refine (unit_within_int64.calls a0_5 0 1000000000 true _ A34.out).mono ?_); rintro e w' ⟨rfl, ⟨nd, rfl⟩⟩; refine ⟨_, rfl, ?_⟩) | (go_at_call 58; (with_reducible refine (unit_within_int64.calls a0_6 0 1000000000 false _ A36.out).mono ?_); rintro e w' ⟨rfl, ⟨nd, rfl⟩⟩))
             go_ret
             exact ⟨m_5, m_17⟩
           ·replace c38 := Bool.eq_false_iff.mpr c38
            subst c38
            have H1 : (some 1) = some r := by rw [if_neg (show ¬ (false = true) by decide)] at H; exact H
            clear H
            have H := H1
            clear H1
            obtain rfl := Option.some.inj H
            obtain ⟨hcz42_0, hcz42_1, hcz42_2, hcz42_3, hcz42_4, hcz42_5, hcz42_6, hcz42_7, hcz42_8, hfz42_0, hfz42_1, hfz42_2, hfz42_3, hfz42_4, hfz42_5, hfz42_6, hfz42_7, hfz42_8⟩ := cf9_ BK110
            go_wp2_with (first | ((with_reducible refine gate_callee (f := 58) rfl ?_); refine goesL_ (some 55) rfl rfl Try.func58 m_13 rfl #[.int .i64 a0_5, .int .i64 0, .int .i64 1000000000] rfl m_2 ?_; (with_reducible refine (unit_within_int64.calls a0_5 0 1000000000 true _ A34.out).mono ?_); rintro e w' ⟨rfl, ⟨nd, rfl⟩⟩; refine ⟨_, rfl, ?_⟩) | (go_at_call 58; (with_reducible refine (unit_within_int64.calls a0_6 0 1000000000 t120 _ A36.out).mono ?_); rintro e w' ⟨rfl, ⟨nd, rfl⟩⟩))
            go_ret
            exact ⟨m_5, m_17⟩
          ·replace c37 := Bool.eq_false_iff.mpr c37
           subst c37
           have H1 : (some 1) = some r := by rw [if_neg (show ¬ (false = true) by decide)] at H; exact H
           clear H
           have H := H1
           clear H1
           obtain rfl := Option.some.inj H
           obtain ⟨hcz43_0, hcz43_1, hcz43_2, hcz43_3, hcz43_4, hcz43_5, hcz43_6, hcz43_7, hcz43_8, hfz43_0, hfz43_1, hfz43_2, hfz43_3, hfz43_4, hfz43_5, hfz43_6, hfz43_7, hfz43_8⟩ := cf9_ BK110
           go_wp2_with (first | ((with_reducible refine gate_callee (f := 58) rfl ?_); refine goesL_ (some 55) rfl rfl Try.func58 m_13 rfl #[.int .i64 a0_5, .int .i64 0, .int .i64 1000000000] rfl m_2 ?_; (with_reducible refine (unit_within_int64.calls a0_5 0 1000000000 true _ A34.out).mono ?_); rintro e w' ⟨rfl, ⟨nd, rfl⟩⟩; refine ⟨_, rfl, ?_⟩) | (go_at_call 58; (with_reducible refine (unit_within_int64.calls a0_6 0 1000000000 t120 _ A36.out).mono ?_); rintro e w' ⟨rfl, ⟨nd, rfl⟩⟩))
           go_ret
           exact ⟨m_5, m_17⟩
         ·replace c35 := Bool.eq_false_iff.mpr c35
          subst c35
          have H1 : (if x6_11 = true then (if x7_22 = true then (some 1) else (some 1)) else (some 1)) = some r := by rw [if_neg (show ¬ (false = true) by decide)] at H; exact H
          clear H
          have H := H1
          clear H1
          by_cases c44 : x6_11 = true
          ·subst c44
           have H1 : (if x7_22 = true then (some 1) else (some 1)) = some r := by rw [if_pos rfl] at H; exact H
           clear H
           have H := H1
           clear H1
           by_cases c45 : x7_22 = true
           ·subst c45
            have H1 : (some 1) = some r := by rw [if_pos rfl] at H; exact H
            clear H
            have H := H1
            clear H1
            obtain rfl := Option.some.inj H
            obtain ⟨hcz46_0, hcz46_1, hcz46_2, hcz46_3, hcz46_4, hcz46_5, hcz46_6, hcz46_7, hcz46_8, hfz46_0, hfz46_1, hfz46_2, hfz46_3, hfz46_4, hfz46_5, hfz46_6, hfz46_7, hfz46_8⟩ := cf9_ BK110
            go_wp2_with (first | ((with_reducible refine gate_callee (f := 58) rfl ?_); refine goesL_ (some 55) rfl rfl Try.func58 m_13 rfl #[.int .i64 a0_5, .int .i64 0, .int .i64 1000000000] rfl m_2 ?_; (with_reducible refine (unit_within_int64.calls a0_5 0 1000000000 false _ A34.out).mono ?_); rintro e w' ⟨rfl, ⟨nd, rfl⟩⟩; refine ⟨_, rfl, ?_⟩))
            go_ret
            exact ⟨m_5, m_17⟩
           ·replace c45 := Bool.eq_false_iff.mpr c45
            subst c45
            have H1 : (some 1) = some r := by rw [if_neg (show ¬ (false = true) by decide)] at H; exact H
            clear H
            have H := H1
            clear H1
            obtain rfl := Option.some.inj H
            obtain ⟨hcz47_0, hcz47_1, hcz47_2, hcz47_3, hcz47_4, hcz47_5, hcz47_6, hcz47_7, hcz47_8, hfz47_0, hfz47_1, hfz47_2, hfz47_3, hfz47_4, hfz47_5, hfz47_6, hfz47_7, hfz47_8⟩ := cf9_ BK110
            go_wp2_with (first | ((with_reducible refine gate_callee (f := 58) rfl ?_); refine goesL_ (some 55) rfl rfl Try.func58 m_13 rfl #[.int .i64 a0_5, .int .i64 0, .int .i64 1000000000] rfl m_2 ?_; (with_reducible refine (unit_within_int64.calls a0_5 0 1000000000 false _ A34.out).mono ?_); rintro e w' ⟨rfl, ⟨nd, rfl⟩⟩; refine ⟨_, rfl, ?_⟩))
            go_ret
            exact ⟨m_5, m_17⟩
          ·replace c44 := Bool.eq_false_iff.mpr c44
           subst c44
           have H1 : (some 1) = some r := by rw [if_neg (show ¬ (false = true) by decide)] at H; exact H
           clear H
           have H := H1
           clear H1
           obtain rfl := Option.some.inj H
           obtain ⟨hcz48_0, hcz48_1, hcz48_2, hcz48_3, hcz48_4, hcz48_5, hcz48_6, hcz48_7, hcz48_8, hfz48_0, hfz48_1, hfz48_2, hfz48_3, hfz48_4, hfz48_5, hfz48_6, hfz48_7, hfz48_8⟩ := cf9_ BK110
           go_wp2_with (first | ((with_reducible refine gate_callee (f := 58) rfl ?_); refine goesL_ (some 55) rfl rfl Try.func58 m_13 rfl #[.int .i64 a0_5, .int .i64 0, .int .i64 1000000000] rfl m_2 ?_; (with_reducible refine (unit_within_int64.calls a0_5 0 1000000000 false _ A34.out).mono ?_); rintro e w' ⟨rfl, ⟨nd, rfl⟩⟩; refine ⟨_, rfl, ?_⟩))
           go_ret
           exact ⟨m_5, m_17⟩
    ·rw [if_neg c11] at H
     have c11b1 : (t112 != 0) = true := bne_iff_ne.mpr c11
     obtain rfl := Option.some.inj H
     obtain ⟨hcz49_0, hcz49_1, hcz49_2, hcz49_3, hcz49_4, hcz49_5, hcz49_6, hcz49_7, hcz49_8, hfz49_0, hfz49_1, hfz49_2, hfz49_3, hfz49_4, hfz49_5, hfz49_6, hfz49_7, hfz49_8⟩ := cf9_ BK110
     go_wp2_with (first | ((with_reducible refine gate_callee (f := 57) rfl ?_); refine goesL_ (some 21) rfl rfl Try.func57 m_13 rfl #[.slice A0_2 l0_2.length c0_2] rfl m_2 ?_; (with_reducible refine (step_CheckOffer.calls _ _ l0_2 t112 _ ?side1 ?side2 A10.out).mono ?_); (case side1 => exact cA_ (Kd.C_below HR0_2.out HB.out)); (case side2 => exact HC0_2.out); rintro e w50 ⟨rfl, hb⟩; refine ⟨_, rfl, ?_⟩; replace HB := Aside0.mk (below_step m_17 hb); clear hb))
     go_ret
     exact ⟨m_5, m_17⟩
end Go.Proofs.Ytelklgdmhnkenaa.U
namespace Go.Proofs.Ytelklgdmhnkenaa.U
attribute [local go_sem] max2_int min2_int max_two min_two max_three min_three max_four min_four
end Go.Proofs.Ytelklgdmhnkenaa.U
namespace Go.Proofs.Ytelklgdmhnkenaa.U
attribute [local go_sem] max2_int min2_int max_two min_two max_three min_three max_four min_four
end Go.Proofs.Ytelklgdmhnkenaa.U
namespace Go.Proofs.Ytelklgdmhnkenaa.U
attribute [local go_sem] max2_int min2_int max_two min_two max_three min_three max_four min_four
def Evs {α : Type} (g : Nat → Option α) (r : α) : Prop := ∃ K, ∀ k, K ≤ k → g k = some r
theorem Evs.const {α : Type} {o : Option α} {r : α} (h : o = some r) : Evs (fun _ => o) r := ⟨0, fun _ _ => h⟩
theorem Evs.all {α : Type} {g : Nat → Option α} {r : α} (h : ∀ k, g k = some r) : Evs g r := ⟨0, fun k _ => h k⟩
theorem Evs.bind {α β : Type} {g : Nat → Option α} {f : Nat → α → Option β} {a : α} {r : β} (h : Evs g a) (h2 : Evs (fun k => f k a) r) : Evs (fun k => (g k).bind (f k)) r := by
  obtain ⟨K, hK⟩ := h
  obtain ⟨K2, hK2⟩ := h2
  exact ⟨K + K2, fun k hk => by show (g k).bind (f k) = some r; rw [hK k (by omega)]; exact hK2 k (by omega)⟩
theorem Evs.succ {α : Type} {g : Nat → Option α} {r : α} (h : Evs (fun k => g (k + 1)) r) : Evs g r := by
  obtain ⟨K, hK⟩ := h
  exact ⟨K + 1, fun k hk => by obtain ⟨m, rfl⟩ : ∃ m, k = m + 1 := ⟨k - 1, by omega⟩; exact hK m (by omega)⟩
theorem Evs.congr {α : Type} {g g' : Nat → Option α} {r : α} (h : Evs g r) (e : ∀ k, g' k = g k) : Evs g' r := by
  obtain ⟨K, hK⟩ := h
  exact ⟨K, fun k hk => (e k).trans (hK k hk)⟩
theorem Evs.some {α : Type} {g : Nat → Option α} {r : α} (h : Evs g r) : ∃ k, g k = Option.some r := by
  obtain ⟨K, hK⟩ := h
  exact ⟨K, hK K (Nat.le_refl _)⟩
def inB (a lo hi : Int) : Bool := decide (lo ≤ a) && decide (a ≤ hi)
theorem within_f (a lo hi : Int) : unit_within_int.f a lo hi = some (inB a lo hi) := by
  unfold unit_within_int.f inB
  by_cases h : a ≥ lo
  · rw [if_pos h]
    have : lo ≤ a := h
    simp [this]
  · rw [if_neg h]
    have : ¬ lo ≤ a := h
    simp [this]
theorem within64_f (a lo hi : Int) : unit_within_int64.f a lo hi = some (inB a lo hi) := within_f a lo hi
def qsum (l : List S99) : Int := (l.map (·.f0)).sum
theorem qsum_cons (x : S99) (l : List S99) : qsum (x :: l) = x.f0 + qsum l := by simp [qsum]
def curveF (l : List S99) : Int := if wrongF false l = 0 then 0 else wrongF true l
def sumF (l : List S99) : Int := if curveF l = 0 then qsum l else 0
def maxF (l : List S99) : Int := if wrongF true l = 0 then qsum l else 0
theorem wrongFrom_ok {up : Bool} : ∀ {prev : Option Int} {l : List S99}, wrongFrom up prev l = 0 → ∀ x ∈ l, 1 ≤ x.f0 ∧ x.f0 ≤ 1000000 ∧ -1000000 ≤ x.f1 ∧ x.f1 ≤ 1000000
  | _, [], _ => fun x hx => by cases hx
  | prev, y :: l, h => by
    unfold wrongFrom at h
    by_cases h1 : y.f0 < 1 ∨ 1000000 < y.f0 ∨ y.f1 < -1000000 ∨ 1000000 < y.f1
    · rw [if_pos h1] at h
      omega
    · rw [if_neg h1] at h
      generalize cutB up prev y.f1 = c at h
      cases c
      · intro x hx
        rcases List.mem_cons.1 hx with rfl | hx
        · omega
        · exact wrongFrom_ok (show wrongFrom up (some y.f1) l = 0 from h) x hx
      · exact absurd (show (3 : Int) = 0 from h) (by decide)
theorem wrongF_ok {up : Bool} {l : List S99} (h : wrongF up l = 0) : l.length ≤ 3 ∧ 0 < l.length ∧ ∀ x ∈ l, 1 ≤ x.f0 ∧ x.f0 ≤ 1000000 ∧ -1000000 ≤ x.f1 ∧ x.f1 ≤ 1000000 := by
  unfold wrongF at h
  by_cases h0 : l.length = 0
  · rw [if_pos h0] at h
    omega
  · rw [if_neg h0] at h
    by_cases h3 : 3 < l.length
    · rw [if_pos h3] at h
      omega
    · rw [if_neg h3] at h
      exact ⟨by omega, by omega, wrongFrom_ok h⟩
theorem qsum_bound : ∀ {l : List S99}, (∀ x ∈ l, 1 ≤ x.f0 ∧ x.f0 ≤ 1000000 ∧ -1000000 ≤ x.f1 ∧ x.f1 ≤ 1000000) → 0 ≤ qsum l ∧ qsum l ≤ l.length * 1000000 ∧ (l.length : Int) ≤ qsum l
  | [], _ => by simp [qsum]
  | y :: l, h => by
    have h1 := h y List.mem_cons_self
    have h2 := qsum_bound (l := l) (fun x hx => h x (List.mem_cons_of_mem _ hx))
    rw [qsum_cons, List.length_cons]
    omega
theorem wrap_id {x : Int} (h0 : -9223372036854775808 ≤ x) (h1 : x ≤ 9223372036854775807) : wrap64 x = x := by unfold wrap64; omega
theorem curve_f (l : List S99) : step_curve.f l = some (curveF l) := by
  unfold step_curve.f step_CheckBid.f step_CheckOffer.f curveF
  simp only [Option.bind_some]
  split <;> rfl
theorem curve_ok {l : List S99} (h : curveF l = 0) : l.length ≤ 3 ∧ 0 < l.length ∧ ∀ x ∈ l, 1 ≤ x.f0 ∧ x.f0 ≤ 1000000 ∧ -1000000 ≤ x.f1 ∧ x.f1 ≤ 1000000 := by
  unfold curveF at h
  by_cases h1 : wrongF false l = 0
  · exact wrongF_ok h1
  · rw [if_neg h1] at h
    exact wrongF_ok h
theorem sum_loop (l : List S99) (hl : l.length ≤ 3) (hx : ∀ x ∈ l, 1 ≤ x.f0 ∧ x.f0 ≤ 1000000 ∧ -1000000 ≤ x.f1 ∧ x.f1 ≤ 1000000) (d : Nat) : ∀ (i : Nat) (acc : Int), l.length - i = d → i ≤ l.length → 0 ≤ acc → acc ≤ 1000000 * i →
    Evs (fun k => step_Sum.l0 k acc l (l.length : Int) (i : Int)) (acc + qsum (l.drop i)) := by
  induction d with
  | zero =>
    intro i acc hd hi h0 h1
    refine Evs.succ (Evs.all fun k => ?_)
    simp only [step_Sum.l0]
    rw [if_neg (by omega), List.drop_eq_nil_of_le (by omega)]
    simp [qsum]
  | succ d ih =>
    intro i acc hd hi h0 h1
    have hlt : i < l.length := by omega
    have hx1 := hx l[i] (List.getElem_mem hlt)
    have e := rd99 l i hlt
    have h := ih (i + 1) (acc + l[i].f0) (by omega) (by omega) (by omega) (by omega)
    rw [Int.add_assoc, ← qsum_cons, ← List.drop_eq_getElem_cons hlt] at h
    refine Evs.succ (h.congr fun k => ?_)
    simp only [step_Sum.l0]
    rw [if_pos (by omega), if_pos (by omega), if_pos (by omega), e, wrap_id (x := acc + l[i].f0) (by omega) (by omega), wrap_id (x := (i : Int) + 1) (by omega) (by omega)]
    rfl
theorem sum_f (l : List S99) : Evs (fun k => step_Sum.f k l) (sumF l) := by
  unfold step_Sum.f sumF
  simp only [curve_f, Option.bind_some]
  by_cases h : curveF l = 0
  · simp only [if_pos h]
    obtain ⟨h1, h2, h3⟩ := curve_ok h
    have := sum_loop l h1 h3 l.length 0 0 (by omega) (by omega) (by omega) (by omega)
    rw [Int.zero_add, List.drop_zero] at this
    exact this
  · simp only [if_neg h]
    exact Evs.const rfl
theorem max_f (a0 a1 : Int) (l : List S99) (a3 a4 a5 a6 a7 a8 : Int) : Evs (fun k => unit_Max.f k a0 a1 l a3 a4 a5 a6 a7 a8) (maxF l) := by
  unfold unit_Max.f maxF step_CheckOffer.f
  simp only [Option.bind_some]
  by_cases h : wrongF true l = 0
  · simp only [if_pos h]
    refine Evs.bind (sum_f l) (Evs.const ?_)
    unfold sumF curveF
    rw [h]
    simp
  · simp only [if_neg h]
    exact Evs.const rfl
def checkF (b m : Int) (l : List S99) (up dn st id sp on buses : Int) : Int :=
  if (!(inB b 0 (wrap64 (buses - 1))) || decide (buses < 1)) = true then 1
  else if wrongF true l = 0 then
    (if (inB m 0 (maxF l) && inB sp 0 1000000 && (inB up 1 6 && inB dn 1 6 && inB on (-6) 6 && (on != 0)) && (inB st 0 1000000000 && inB id 0 1000000000)) = true then 0 else 1)
  else wrongF true l
theorem check_f (b m : Int) (l : List S99) (up dn st id sp on buses : Int) : Evs (fun k => unit_Check.f k b m l up dn st id sp on buses) (checkF b m l up dn st id sp on buses) := by
  obtain ⟨K, hK⟩ := max_f b m l up dn st id sp on
  refine ⟨K + 3, fun k hk => ?_⟩
  obtain ⟨k, rfl⟩ : ∃ j, k = j + 3 := ⟨k - 3, by omega⟩
  have hm := hK (k + 2) (by omega)
  unfold unit_Check.f checkF
  simp only [within_f, Option.bind_some]
  generalize inB b 0 (wrap64 (buses - 1)) = w1
  generalize decide (buses < 1) = w2
  simp only [unit_Check.j0, unit_Check.j1, unit_Check.j2, within_f, within64_f, Option.bind_some, step_CheckOffer.f, hm]
  generalize inB m 0 (maxF l) = w3
  generalize inB sp 0 1000000 = w4
  generalize inB up 1 6 = w5
  generalize inB dn 1 6 = w6
  generalize inB on (-6) 6 = w7
  generalize (on != 0) = w8
  generalize inB st 0 1000000000 = w9
  generalize inB id 0 1000000000 = w10
  generalize wrongF true l = e
  by_cases he : e = 0
  · simp only [he, if_true]
    cases w1 <;> cases w2 <;> try rfl
    cases w3 <;> cases w4 <;> cases w5 <;> cases w6 <;> cases w7 <;> cases w8 <;> cases w9 <;> cases w10 <;> rfl
  · simp only [he, if_false]
    cases w1 <;> cases w2 <;> rfl
theorem zV_s {x : Int} (h : sm x) : zV (zS x) (zW x) = x := zV_z h.1 h.2
theorem ok_s {x : Int} (h : sm x) : okQ (zS x) (zW x) false [] := okQ_z h.1 h.2
theorem from_s {x : Int} (h : sm x) : frac_FromInt64.f x = some (zS x, zW x, false, []) := by
  unfold frac_FromInt64.f; rw [if_pos (show -4611686018427387904 < x ∧ x < 4611686018427387904 from h)]
theorem sign_s {x : Int} (h : sm x) : frac_Sign.f (zS x) (zW x) false [] = some (if x = 0 then 0 else if x < 0 then -1 else 1) := by
  unfold frac_Sign.f; rw [if_pos (ok_s h), zV_s h]
theorem cmp_s {x y : Int} (h : sm x) (h' : sm y) : frac_Cmp.f (zS x) (zW x) false [] (zS y) (zW y) false [] = some (if x = y then 0 else if x < y then -1 else 1) := by
  unfold frac_Cmp.f; rw [if_pos ⟨ok_s h, ok_s h'⟩, zV_s h, zV_s h']
theorem min_s {x y : Int} (h : sm x) (h' : sm y) : frac_Min.f (zS x) (zW x) false [] (zS y) (zW y) false [] = some (zS (mn x y), zW (mn x y), false, []) := by
  unfold frac_Min.f mn; rw [if_pos ⟨ok_s h, ok_s h'⟩, zV_s h, zV_s h']
  by_cases hx : x ≤ y
  · rw [if_pos hx, if_neg (by omega)]
  · rw [if_neg hx, if_pos (by omega)]
theorem add_s {x y : Int} (h : sm x) (h' : sm y) : frac_Add.f (zS x) (zW x) false [] (zS y) (zW y) false [] = some (zS (x + y), zW (x + y), false, []) := by
  unfold frac_Add.f; rw [if_pos ⟨ok_s h, ok_s h'⟩, zV_s h, zV_s h']
theorem sub_s {x y : Int} (h : sm x) (h' : sm y) : frac_Sub.f (zS x) (zW x) false [] (zS y) (zW y) false [] = some (zS (x - y), zW (x - y), false, []) := by
  unfold frac_Sub.f; rw [if_pos ⟨ok_s h, ok_s h'⟩, zV_s h, zV_s h']
theorem mul_s {x y : Int} (h : x.natAbs ≤ 100000000) (h' : y.natAbs ≤ 1000000) : frac_Mul.f (zS x) (zW x) false [] (zS y) (zW y) false [] = some (zS (x * y), zW (x * y), false, []) := by
  have sx : sm x := by unfold sm; omega
  have sy : sm y := by unfold sm; omega
  have hp : (x * y).natAbs ≤ 100000000000000 := by
    rw [Int.natAbs_mul]
    exact Nat.le_trans (Nat.mul_le_mul h h') (by omega)
  unfold frac_Mul.f smallQ
  rw [if_pos ⟨ok_s sx, ok_s sy, by rw [zV_s sx]; omega, by rw [zV_s sy]; omega, by rw [zV_s sx, zV_s sy]; omega, by rw [zV_s sx, zV_s sy]; omega⟩, zV_s sx, zV_s sy]
def qz (x : Int) : S66 := ⟨⟨zS x, zW x⟩, ⟨false, []⟩⟩
def takenF : List S99 → Int → List Int
  | [], _ => []
  | s :: l, q => mn q s.f0 :: takenF l (q - mn q s.f0)
def partF : List S99 → Int → Int
  | [], _ => 0
  | s :: l, q => mn q s.f0 * s.f1 + partF l (q - mn q s.f0)
theorem mn_le (a b : Int) : mn a b ≤ a ∧ mn a b ≤ b ∧ (mn a b = a ∨ mn a b = b) := by unfold mn; split <;> omega
abbrev okL (l : List S99) : Prop := ∀ x ∈ l, 1 ≤ x.f0 ∧ x.f0 ≤ 1000000 ∧ -1000000 ≤ x.f1 ∧ x.f1 ≤ 1000000
theorem takenF_len : ∀ (l : List S99) (q : Int), (takenF l q).length = l.length
  | [], _ => rfl
  | s :: l, q => by simp [takenF, takenF_len l]
theorem set_mid {α : Type} (a : List α) (x y : α) (b : List α) : (a ++ x :: b).set a.length y = a ++ y :: b := by
  rw [List.set_append_right _ _ (Nat.le_refl _), Nat.sub_self]; rfl
theorem rd66 (l : List S66) (k : Nat) (h : k < l.length) : rd_T66 l (k : Int) = l[k] := by simp [rd_T66, h]
theorem alloc_loop (l : List S99) (hl : l.length ≤ 3) (hx : okL l) (d : Nat) : ∀ (i : Nat) (q : Int) (pre : List S66), l.length - i = d → i ≤ l.length → pre.length = i → 0 ≤ q → q ≤ 100000000 →
    Evs (fun k => step_Allocate.l0 k (pre ++ List.replicate (l.length - i) z66) l (l.length : Int) (i : Int) (zS q) (zW q) false []) (pre ++ (takenF (l.drop i) q).map qz, 0) := by
  induction d with
  | zero =>
    intro i q pre hd hi hp hq hq2
    obtain rfl : i = l.length := by omega
    refine Evs.succ (Evs.all fun k => ?_)
    simp only [step_Allocate.l0]
    rw [if_neg (by omega)]
    simp [takenF]
  | succ d ih =>
    intro i q pre hd hi hp hq hq2
    have hlt : i < l.length := by omega
    have hs := hx l[i] (List.getElem_mem hlt)
    have e1 : rd_T99 l (i : Int) = l[i] := rd99 l i hlt
    have hd2 : l.drop i = l[i] :: l.drop (i + 1) := List.drop_eq_getElem_cons hlt
    generalize l[i] = s at hs e1 hd2
    have hm := mn_le q s.f0
    have e2 : List.replicate (l.length - i) z66 = z66 :: List.replicate (l.length - (i + 1)) z66 := by
      rw [show l.length - i = (l.length - (i + 1)) + 1 by omega]; rfl
    have hlen : ((pre ++ List.replicate (l.length - i) z66).length : Int) = l.length := by simp; omega
    have e3 : (pre ++ List.replicate (l.length - i) z66).set i (qz (mn q s.f0)) = (pre ++ [qz (mn q s.f0)]) ++ List.replicate (l.length - (i + 1)) z66 := by
      rw [e2, ← hp, set_mid]
      simp
    have e4 : rd_T66 ((pre ++ [qz (mn q s.f0)]) ++ List.replicate (l.length - (i + 1)) z66) (i : Int) = qz (mn q s.f0) := by
      rw [rd66 _ _ (by simp; omega)]
      simp [← hp]
    have h := ih (i + 1) (q - mn q s.f0) (pre ++ [qz (mn q s.f0)]) (by omega) (by omega) (by simp [hp]) (by omega) (by omega)
    refine Evs.succ ?_
    have hr : pre ++ (takenF (l.drop i) q).map qz = (pre ++ [qz (mn q s.f0)]) ++ (takenF (l.drop (i + 1)) (q - mn q s.f0)).map qz := by
      rw [hd2, takenF]; simp
    rw [hr]
    refine Evs.congr h (fun k => ?_)
    simp only [step_Allocate.l0]
    rw [if_pos (by omega), if_pos (by omega), if_pos (by omega), e1, from_s (by unfold sm; omega)]
    simp only [Option.bind_some]
    rw [min_s (by unfold sm; omega) (by unfold sm; omega)]
    simp only [Option.bind_some]
    rw [if_pos (by omega), show ((i : Int)).toNat = i from Int.toNat_natCast i, wrap_id (by omega) (by omega), show (i : Int) + 1 = ((i + 1 : Nat) : Int) by omega]
    rw [show (pre ++ List.replicate (l.length - i) z66).set i (⟨(⟨zS (mn q s.f0), zW (mn q s.f0)⟩ : S64), (⟨false, []⟩ : S64)⟩ : S66) = _ from e3, e4]
    show (frac_Sub.f (zS q) (zW q) false [] (zS (mn q s.f0)) (zW (mn q s.f0)) false []).bind _ = _
    rw [sub_s (by unfold sm; omega) (by unfold sm; omega)]
    rfl
theorem step_alloc_f {l : List S99} {q : Int} (hc : curveF l = 0) (h0 : 0 ≤ q) (h1 : q ≤ qsum l) : Evs (fun k => step_Allocate.f k l (zS q) (zW q) false []) ((takenF l q).map qz, 0) := by
  obtain ⟨h3, h4, hx⟩ := curve_ok hc
  have hb := qsum_bound hx
  have hs : sumF l = qsum l := by unfold sumF; rw [if_pos hc]
  have hq : q ≤ 3000000 := by omega
  unfold step_Allocate.f
  simp only [curve_f, hc, Option.bind_some, if_true]
  rw [sign_s (by unfold sm; omega)]
  simp only [Option.bind_some]
  simp only [if_neg (show ¬ (if q = 0 then (0 : Int) else if q < 0 then -1 else 1) < 0 by split <;> (try split) <;> omega)]
  refine (sum_f l).bind ?_
  rw [hs, from_s (by unfold sm; omega)]
  simp only [Option.bind_some]
  rw [cmp_s (by unfold sm; omega) (by unfold sm; omega)]
  simp only [Option.bind_some]
  have e : decide ((if q = qsum l then (0 : Int) else if q < qsum l then -1 else 1) > 0) = false := by
    apply decide_eq_false
    split <;> (try split) <;> omega
  rw [e]
  refine Evs.succ ?_
  have h := alloc_loop l h3 hx l.length 0 q [] (by omega) (by omega) rfl h0 (by omega)
  rw [List.drop_zero, List.nil_append] at h
  refine Evs.congr h (fun k => ?_)
  simp only [step_Allocate.j0]
  have hl : ((l.length : Int)).toNat = l.length := Int.toNat_natCast _
  simp [hl]
  omega
theorem partF_bnd : ∀ (l : List S99) (q : Int), okL l → 0 ≤ q → -(1000000000000 * (l.length : Int)) ≤ partF l q ∧ partF l q ≤ 1000000000000 * (l.length : Int)
  | [], _, _, _ => by simp [partF]
  | s :: l, q, h, hq => by
    have hs := h s List.mem_cons_self
    have hm := mn_le q s.f0
    have ih := partF_bnd l (q - mn q s.f0) (fun y hy => h y (List.mem_cons_of_mem _ hy)) (by omega)
    have hp : -1000000000000 ≤ mn q s.f0 * s.f1 ∧ mn q s.f0 * s.f1 ≤ 1000000000000 := by
      have h1 : 0 ≤ mn q s.f0 := by omega
      have h2 : mn q s.f0 ≤ 1000000 := by omega
      generalize mn q s.f0 = a at h1 h2
      have a1 : a * s.f1 ≤ a * 1000000 := Int.mul_le_mul_of_nonneg_left hs.2.2.2 h1
      have a2 : a * (-1000000) ≤ a * s.f1 := Int.mul_le_mul_of_nonneg_left hs.2.2.1 h1
      omega
    rw [partF, List.length_cons]
    omega
theorem cost_loop2 (l : List S99) (hl : l.length ≤ 3) (hx : okL l) (q0 : Int) (d : Nat) : ∀ (i : Nat) (q acc : Int), l.length - i = d → i ≤ l.length → 0 ≤ q → (takenF l q0).drop i = takenF (l.drop i) q → -(1000000000000 * (i : Int)) ≤ acc → acc ≤ 1000000000000 * (i : Int) →
    Evs (fun k => step_Cost.l0 k l ((takenF l q0).map qz) (l.length : Int) (i : Int) (zS acc) (zW acc) false []) (zS (acc + partF (l.drop i) q), zW (acc + partF (l.drop i) q), false, [], 0) := by
  induction d with
  | zero =>
    intro i q acc hd hi hq ht h0 h1
    obtain rfl : i = l.length := by omega
    refine Evs.succ (Evs.all fun k => ?_)
    simp only [step_Cost.l0]
    rw [if_neg (by omega)]
    simp [partF]
  | succ d ih =>
    intro i q acc hd hi hq ht h0 h1
    have hlt : i < l.length := by omega
    have hs := hx l[i] (List.getElem_mem hlt)
    have e1 : rd_T99 l (i : Int) = l[i] := rd99 l i hlt
    have hd2 : l.drop i = l[i] :: l.drop (i + 1) := List.drop_eq_getElem_cons hlt
    generalize l[i] = s at hs e1 hd2
    have hm := mn_le q s.f0
    have htl : (takenF l q0).length = l.length := takenF_len l q0
    rw [hd2, takenF] at ht
    have hi2 : i < (takenF l q0).length := by omega
    have ht2 := ht
    rw [List.drop_eq_getElem_cons hi2] at ht2
    obtain ⟨ha, hb⟩ := List.cons_eq_cons.1 ht2
    have e4 : rd_T66 ((takenF l q0).map qz) (i : Int) = qz (mn q s.f0) := by
      rw [rd66 _ _ (by simpa using hi2)]
      simp [ha]
    have hlen : (((takenF l q0).map qz).length : Int) = l.length := by simp [htl]
    have hp : -1000000000000 ≤ mn q s.f0 * s.f1 ∧ mn q s.f0 * s.f1 ≤ 1000000000000 := by
      have h1 : 0 ≤ mn q s.f0 := by omega
      have h2 : mn q s.f0 ≤ 1000000 := by omega
      generalize mn q s.f0 = a at h1 h2
      have a1 : a * s.f1 ≤ a * 1000000 := Int.mul_le_mul_of_nonneg_left hs.2.2.2 h1
      have a2 : a * (-1000000) ≤ a * s.f1 := Int.mul_le_mul_of_nonneg_left hs.2.2.1 h1
      omega
    have h := ih (i + 1) (q - mn q s.f0) (acc + mn q s.f0 * s.f1) (by omega) (by omega) (by omega) hb (by omega) (by omega)
    rw [hd2, partF, ← Int.add_assoc]
    refine Evs.succ (Evs.congr h (fun k => ?_))
    simp only [step_Cost.l0]
    rw [if_pos (by omega), if_pos (by omega), if_pos (by omega), if_pos (by omega), e1, e4, from_s (by unfold sm; omega)]
    show (frac_Mul.f (zS (mn q s.f0)) (zW (mn q s.f0)) false [] (zS s.f1) (zW s.f1) false []).bind _ = _
    rw [mul_s (by omega) (by omega)]
    show (frac_Add.f (zS acc) (zW acc) false [] (zS (mn q s.f0 * s.f1)) (zW (mn q s.f0 * s.f1)) false []).bind _ = _
    rw [add_s (by unfold sm; omega) (by unfold sm; omega), wrap_id (by omega) (by omega), show (i : Int) + 1 = ((i + 1 : Nat) : Int) by omega]
    rfl
theorem step_cost_f {l : List S99} {q : Int} (hc : curveF l = 0) (h0 : 0 ≤ q) (h1 : q ≤ qsum l) : Evs (fun k => step_Cost.f k l (zS q) (zW q) false []) (zS (partF l q), zW (partF l q), false, [], 0) := by
  obtain ⟨h3, h4, hx⟩ := curve_ok hc
  unfold step_Cost.f
  refine (step_alloc_f hc h0 h1).bind ?_
  simp only [if_true]
  rw [from_s (by unfold sm; omega)]
  simp only [Option.bind_some]
  have h := cost_loop2 l h3 hx q l.length 0 q 0 (by omega) (by omega) h0 (by rw [List.drop_zero, List.drop_zero]) (by omega) (by omega)
  rw [List.drop_zero, Int.zero_add] at h
  refine Evs.congr h (fun k => ?_)
  have e : (((takenF l q).map qz).length : Int) = l.length := by simp [takenF_len]
  rw [e]
  rfl
end Go.Proofs.Ytelklgdmhnkenaa.U
namespace Go.Proofs.Ytelklgdmhnkenaa.U
attribute [local go_sem] max2_int min2_int max_two min_two max_three min_three max_four min_four
def energy_Check.l0 : Nat → List (S24) → List Bool → List (S24) → Int → Int → Option (Int)
 | 0, _, _, _, _, _ => none
 | k + 1, x0, x1, x11, x12, x13 => if x13 < x12 then (if 0 ≤ x13 then (if x13 < (x11.length : Int) then ((unit_Check.f k ((rd_T24 x11 x13).f0) ((rd_T24 x11 x13).f1) ((rd_T24 x11 x13).f2) ((rd_T24 x11 x13).f3) ((rd_T24 x11 x13).f4) ((rd_T24 x11 x13).f5) ((rd_T24 x11 x13).f6) ((rd_T24 x11 x13).f7) ((rd_T24 x11 x13).f8) 6).bind fun t344 => (if t344 = 0 then (energy_Check.l0 k x0 x1 x11 x12 (wrap64 (x13 + 1))) else (some t344))) else (none)) else (none)) else (if (x1.length : Int) = (x0.length : Int) then (some 0) else (some 3))
def energy_Check.f (k : Nat) (l0 : List (S24)) (l1 : List Bool) : Option (Int) := if (l0.length : Int) > 5 then (some 5) else (energy_Check.l0 k l0 l1 l0 (l0.length : Int) 0)
set_option maxHeartbeats 8000000 in
set_option maxRecDepth 100000 in
theorem energy_Check.calls (k : Nat) (A0 : Option Addr) (c0 : Nat) (l0 : List (S24)) (A1 : Option Addr) (c1 : Nat) (l1 : List Bool) (r : Int) (w : World) (hr0 : Kd.C k24 w A0 l0.length l0) (hc0 : l0.length ≤ c0) (hr1 : Kd.C Kd.bool w A1 l1.length l1) (hc1 : l1.length ≤ c1) (h : energy_Check.f k l0 l1 = some r) :
  Calls Try.prog 35 #[.slice A0 l0.length c0, .slice A1 l1.length c1] w fun e w' => e = .returned (.int .i64 r) ∧ Below w.heap.size w w' := by
 have HR0 := Aside0.mk hr0
 clear hr0 hc0
 clear hr1 hc1
 have HB := Aside0.mk (Below.refl w.heap.size w)
 have H : (if (l0.length : Int) > 5 then (some 5) else (energy_Check.l0 k l0 l1 l0 (l0.length : Int) 0)) = some r := h
 clear h
 by_cases c3 : (l0.length : Int) > 5
 ·rw [if_pos c3] at H
  have c3b0 : decide (5 < (l0.length : Int)) = true := decide_eq_true c3
  clear c3
  obtain rfl := Option.some.inj H
  go_enter Try.func35, Try.ntmps35
  go_wp2
  go_ret
  exact ⟨m_5, m_1⟩
 ·rw [if_neg c3] at H
  have c3b0 : decide (5 < (l0.length : Int)) = false := decide_eq_false c3
  clear c3
  have H' := Aside0.mk H
  clear H
  go_enter Try.func35, Try.ntmps35
  go_wp2
  go_loopg [13] k (fun kq v13 w' => ∃ (x13_1 : Int), v13 = .int .i64 x13_1 ∧ Aside0 (energy_Check.l0 kq l0 l1 l0 (l0.length : Int) x13_1 = some r) ∧ Aside0 (kq ≤ k) ∧ Aside0 (Below w.heap.size w w'))
  case atStart => exact ⟨(0), m_9, H', ⟨Nat.le_refl _⟩, ⟨m_1⟩⟩
  case round =>
   clear H'
   (try clear c1); (try clear p2); (try clear c3); (try clear c3b0); (try skip)
   obtain ⟨x13_1, rfl, HA, HK1, HB⟩ := hrel
   cases gk with
   | zero => exact absurd HA.out (by simp [energy_Check.l0])
   | succ k1 =>
    have H := HA.out
    clear HA
    simp only [energy_Check.l0] at H
    by_cases c4 : x13_1 < (l0.length : Int)
    ·rw [if_pos c4] at H
     clear c4
     by_cases c5 : 0 ≤ x13_1
     ·rw [if_pos c5] at H
      have c5b0 : decide (0 ≤ x13_1) = true := decide_eq_true c5
      clear c5
      by_cases c6 : x13_1 < (l0.length : Int)
      ·rw [if_pos c6] at H
       have c6b0 : decide (x13_1 < (l0.length : Int)) = true := decide_eq_true c6
       clear c6
       replace H := Option.bind_eq_some_iff.mp H
       obtain ⟨t344, A70, H⟩ := H
       replace H : (if t344 = 0 then (energy_Check.l0 k1 l0 l1 l0 (l0.length : Int) (wrap64 (x13_1 + 1))) else (some t344)) = some r := H
       have A7 := Aside0.mk A70
       clear A70
       by_cases c8 : t344 = 0
       ·rw [if_pos c8] at H
        have c8b1 : (t344 != 0) = false := bne_eq_false_iff_eq.mpr c8
        clear c8
        have H' := Aside0.mk H
        clear H
        have p342 : 0 ≤ (x13_1 : Int) := of_decide_eq_true m_4
        have q342 : x13_1 < (l0.length : Int) := of_decide_eq_true m_4
        obtain ⟨ad342, A342_2, c342_2, e342, hx342_0, hx342_1, hx342_2, hx342_3, hx342_4, hx342_5, hx342_6, hx342_7, hx342_8, hl342_2, hi342_2⟩ := at_T24 HR0.out x13_1 p342 q342
        cases e342
        replace hx342_0 := mv_ HB hx342_0
        replace hx342_1 := mv_ HB hx342_1
        replace hx342_2 := mv_ HB hx342_2
        replace hx342_3 := mv_ HB hx342_3
        replace hx342_4 := mv_ HB hx342_4
        replace hx342_5 := mv_ HB hx342_5
        replace hx342_6 := mv_ HB hx342_6
        replace hx342_7 := mv_ HB hx342_7
        replace hx342_8 := mv_ HB hx342_8
        have HR342_2 := Aside0.mk hi342_2
        have HC342_2 := Aside0.mk hl342_2
        clear hi342_2 hl342_2
        replace p342 := eq_true p342
        replace q342 := eq_true q342
        go_wp2_with (first | ((with_reducible refine gate_dst (N := 6) rfl ?_); refine box_event ?hg (N := 6) ?hd (cs := #[.int .i64 0, .int .i64 0, .slice none 0 0, .int .i64 0, .int .i64 0, .int .i64 0, .int .i64 0, .int .i64 0, .int .i64 0]) (t := 24) ?hr ?_; (case hd => rfl); (case hg => rfl); (case hr => exact hr_); intro gb343 hg w9 hbox hb; have BK343 := Aside0.mk (hbox); have GE343 := gW_ (w := w) hg m_1; replace HB := Aside0.mk (below_step m_1 hb); clear hb hbox hg; obtain ⟨hcz10_0, hcz10_1, hcz10_2, hcz10_3, hcz10_4, hcz10_5, hcz10_6, hcz10_7, hcz10_8, hfz10_0, hfz10_1, hfz10_2, hfz10_3, hfz10_4, hfz10_5, hfz10_6, hfz10_7, hfz10_8⟩ := cf9_ BK343) | ((with_reducible refine gate_callee (f := 34) rfl ?_); refine goesL_ (some 18) rfl rfl Try.func34 m_13 rfl #[.agg #[.int .i64 ((rd_T24 l0 x13_1).f0), .int .i64 ((rd_T24 l0 x13_1).f1), .slice A342_2 ((rd_T24 l0 x13_1).f2).length c342_2, .int .i64 ((rd_T24 l0 x13_1).f3), .int .i64 ((rd_T24 l0 x13_1).f4), .int .i64 ((rd_T24 l0 x13_1).f5), .int .i64 ((rd_T24 l0 x13_1).f6), .int .i64 ((rd_T24 l0 x13_1).f7), .int .i64 ((rd_T24 l0 x13_1).f8)], .int .i64 6] rfl m_2 ?_; (with_reducible refine (unit_Check.calls k1 ((rd_T24 l0 x13_1).f0) ((rd_T24 l0 x13_1).f1) _ _ ((rd_T24 l0 x13_1).f2) ((rd_T24 l0 x13_1).f3) ((rd_T24 l0 x13_1).f4) ((rd_T24 l0 x13_1).f5) ((rd_T24 l0 x13_1).f6) ((rd_T24 l0 x13_1).f7) ((rd_T24 l0 x13_1).f8) 6 t344 _ ?side1 ?side2 A7.out).mono ?_); (case side1 => exact Kd.C_below HR342_2.out m_57); (case side2 => exact HC342_2.out); rintro e w11 ⟨rfl, hb⟩; refine ⟨_, rfl, ?_⟩; replace HB := Aside0.mk (below_step m_57 hb); clear hb))
        go_roundg k1
        case measure => have := HK1.out; omega
        case rel => exact ⟨(wrap64 (x13_1 + 1)), m_9, H', ⟨m_119⟩, ⟨m_57⟩⟩
       ·rw [if_neg c8] at H
        have c8b1 : (t344 != 0) = true := bne_iff_ne.mpr c8
        obtain rfl := Option.some.inj H
        have p342 : 0 ≤ (x13_1 : Int) := of_decide_eq_true m_4
        have q342 : x13_1 < (l0.length : Int) := of_decide_eq_true m_4
        obtain ⟨ad342, A342_2, c342_2, e342, hx342_0, hx342_1, hx342_2, hx342_3, hx342_4, hx342_5, hx342_6, hx342_7, hx342_8, hl342_2, hi342_2⟩ := at_T24 HR0.out x13_1 p342 q342
        cases e342
        replace hx342_0 := mv_ HB hx342_0
        replace hx342_1 := mv_ HB hx342_1
        replace hx342_2 := mv_ HB hx342_2
        replace hx342_3 := mv_ HB hx342_3
        replace hx342_4 := mv_ HB hx342_4
        replace hx342_5 := mv_ HB hx342_5
        replace hx342_6 := mv_ HB hx342_6
        replace hx342_7 := mv_ HB hx342_7
        replace hx342_8 := mv_ HB hx342_8
        have HR342_2 := Aside0.mk hi342_2
        have HC342_2 := Aside0.mk hl342_2
        clear hi342_2 hl342_2
        replace p342 := eq_true p342
        replace q342 := eq_true q342
        go_wp2_with (first | ((with_reducible refine gate_dst (N := 6) rfl ?_); refine box_event ?hg (N := 6) ?hd (cs := #[.int .i64 0, .int .i64 0, .slice none 0 0, .int .i64 0, .int .i64 0, .int .i64 0, .int .i64 0, .int .i64 0, .int .i64 0]) (t := 24) ?hr ?_; (case hd => rfl); (case hg => rfl); (case hr => exact hr_); intro gb343 hg w12 hbox hb; have BK343 := Aside0.mk (hbox); have GE343 := gW_ (w := w) hg m_1; replace HB := Aside0.mk (below_step m_1 hb); clear hb hbox hg; obtain ⟨hcz13_0, hcz13_1, hcz13_2, hcz13_3, hcz13_4, hcz13_5, hcz13_6, hcz13_7, hcz13_8, hfz13_0, hfz13_1, hfz13_2, hfz13_3, hfz13_4, hfz13_5, hfz13_6, hfz13_7, hfz13_8⟩ := cf9_ BK343) | ((with_reducible refine gate_callee (f := 34) rfl ?_); refine goesL_ (some 18) rfl rfl Try.func34 m_13 rfl #[.agg #[.int .i64 ((rd_T24 l0 x13_1).f0), .int .i64 ((rd_T24 l0 x13_1).f1), .slice A342_2 ((rd_T24 l0 x13_1).f2).length c342_2, .int .i64 ((rd_T24 l0 x13_1).f3), .int .i64 ((rd_T24 l0 x13_1).f4), .int .i64 ((rd_T24 l0 x13_1).f5), .int .i64 ((rd_T24 l0 x13_1).f6), .int .i64 ((rd_T24 l0 x13_1).f7), .int .i64 ((rd_T24 l0 x13_1).f8)], .int .i64 6] rfl m_2 ?_; (with_reducible refine (unit_Check.calls k1 ((rd_T24 l0 x13_1).f0) ((rd_T24 l0 x13_1).f1) _ _ ((rd_T24 l0 x13_1).f2) ((rd_T24 l0 x13_1).f3) ((rd_T24 l0 x13_1).f4) ((rd_T24 l0 x13_1).f5) ((rd_T24 l0 x13_1).f6) ((rd_T24 l0 x13_1).f7) ((rd_T24 l0 x13_1).f8) 6 t344 _ ?side1 ?side2 A7.out).mono ?_); (case side1 => exact Kd.C_below HR342_2.out m_57); (case side2 => exact HC342_2.out); rintro e w14 ⟨rfl, hb⟩; refine ⟨_, rfl, ?_⟩; replace HB := Aside0.mk (below_step m_57 hb); clear hb))
        go_ret
        exact ⟨m_5, m_57⟩
      ·rw [if_neg c6] at H
       exact absurd H (by simp)
     ·rw [if_neg c5] at H
      exact absurd H (by simp)
    ·rw [if_neg c4] at H
     have c4b0 : decide (x13_1 < (l0.length : Int)) = false := decide_eq_false c4
     clear c4
     by_cases c15 : (l1.length : Int) = (l0.length : Int)
     ·rw [if_pos c15] at H
      have c15b1 : ((l1.length : Int) != (l0.length : Int)) = false := bne_eq_false_iff_eq.mpr c15
      clear c15
      obtain rfl := Option.some.inj H
      go_wp2
      go_ret
      exact ⟨m_5, m_1⟩
     ·rw [if_neg c15] at H
      have c15b1 : ((l1.length : Int) != (l0.length : Int)) = true := bne_iff_ne.mpr c15
      obtain rfl := Option.some.inj H
      go_wp2
      go_ret
      exact ⟨m_5, m_1⟩
end Go.Proofs.Ytelklgdmhnkenaa.U
namespace Go.Proofs.Ytelklgdmhnkenaa.U
attribute [local go_sem] max2_int min2_int max_two min_two max_three min_three max_four min_four
def energy_Cost.l0 : Nat → List (S24) → List Bool → Int → List Int → Int → Int → Option (Int × Int)
 | 0, _, _, _, _, _, _ => none
 | k + 1, x0, x1, x9, x25, x26, x27 => if x27 < x26 then (if 0 ≤ x27 then (if x27 < (x25.length : Int) then (if x27 < (x0.length : Int) then ((unit_Max.f k ((rd_T24 x0 x27).f0) ((rd_T24 x0 x27).f1) ((rd_T24 x0 x27).f2) ((rd_T24 x0 x27).f3) ((rd_T24 x0 x27).f4) ((rd_T24 x0 x27).f5) ((rd_T24 x0 x27).f6) ((rd_T24 x0 x27).f7) ((rd_T24 x0 x27).f8)).bind fun t715 => (if x27 < (x1.length : Int) then (if rdOf false x1 x27 = true then (if (rd x25 x27) < ((rd_T24 x0 x27).f1) then (some (0, 3)) else (if (rd x25 x27) > t715 then (some (0, 3)) else ((energy_part.f k ((rd_T24 x0 x27).f2) (rd x25 x27)).bind fun t718 => (energy_Cost.l0 k x0 x1 (wrap64 (x9 + t718)) x25 x26 (wrap64 (x27 + 1)))))) else (if (rd x25 x27) < 0 then (some (0, 3)) else (if (rd x25 x27) > 0 then (some (0, 3)) else ((energy_part.f k ((rd_T24 x0 x27).f2) (rd x25 x27)).bind fun t720 => (energy_Cost.l0 k x0 x1 (wrap64 (x9 + t720)) x25 x26 (wrap64 (x27 + 1))))))) else (none))) else (none)) else (none)) else (none)) else (some (x9, 0))
def energy_Cost.f (k : Nat) (l0 : List (S24)) (l1 : List Bool) (l2 : List Int) : Option (Int × Int) := (energy_Check.f k l0 l1).bind fun t711 => (if t711 = 0 then (if (l2.length : Int) = (l0.length : Int) then (energy_Cost.l0 k l0 l1 0 l2 (l2.length : Int) 0) else (some (0, 3))) else (some (0, t711)))
def energy_Cost.T10 : Bool × List (List Nat × List Nat) := (true, [([], []), ([], []), ([0, 1], [0, 1]), ([2], [2]), ([3], [3]), ([], []), ([], []), ([5, 6], [5, 6]), ([7], [7]), ([8], [8]), ([4, 9, 0, 1, 2, 3, 4], [4]), ([9, 10, 0, 1, 2, 3, 4, 5, 6, 7, 8, 9, 10], [9])])
def energy_Cost.B10 : List Nat := [0, 0, 3, 7, 15, 0, 0, 96, 224, 480, 1023, 2047]
theorem energy_Cost.tab10 : rtab .any (opsOf Try.f31 10) = energy_Cost.T10 := by kernel_rfl
theorem energy_Cost.bits10 : waitsOk energy_Cost.T10.2 energy_Cost.B10 = true := by kernel_rfl
set_option maxHeartbeats 8000000 in
set_option maxRecDepth 100000 in
theorem energy_Cost.calls (k : Nat) (A0 : Option Addr) (c0 : Nat) (l0 : List (S24)) (A1 : Option Addr) (c1 : Nat) (l1 : List Bool) (A2 : Option Addr) (c2 : Nat) (l2 : List Int) (r1 : Int) (r2 : Int) (w : World) (hr0 : Kd.C k24 w A0 l0.length l0) (hc0 : l0.length ≤ c0) (hr1 : Kd.C Kd.bool w A1 l1.length l1) (hc1 : l1.length ≤ c1) (hr2 : Kd.C (Kd.int .i64) w A2 l2.length l2) (hc2 : l2.length ≤ c2) (h : energy_Cost.f k l0 l1 l2 = some (r1, r2)) :
  Calls Try.prog 31 #[.slice A0 l0.length c0, .slice A1 l1.length c1, .slice A2 l2.length c2] w fun e w' => e = .returned (.tuple #[.int .i64 r1, .int .i64 r2]) ∧ Below w.heap.size w w' := by
 have HR0 := Aside0.mk hr0
 have HC0 := Aside0.mk hc0
 clear hr0 hc0
 have HR1 := Aside0.mk hr1
 have HC1 := Aside0.mk hc1
 clear hr1 hc1
 have HR2 := Aside0.mk hr2
 clear hr2 hc2
 have HB := Aside0.mk (Below.refl w.heap.size w)
 have H : ((energy_Check.f k l0 l1).bind fun t711 => (if t711 = 0 then (if (l2.length : Int) = (l0.length : Int) then (energy_Cost.l0 k l0 l1 0 l2 (l2.length : Int) 0) else (some (0, 3))) else (some (0, t711)))) = some (r1, r2) := h
 clear h
 replace H := Option.bind_eq_some_iff.mp H
 obtain ⟨t711, A40, H⟩ := H
 replace H : (if t711 = 0 then (if (l2.length : Int) = (l0.length : Int) then (energy_Cost.l0 k l0 l1 0 l2 (l2.length : Int) 0) else (some (0, 3))) else (some (0, t711))) = some (r1, r2) := H
 have A4 := Aside0.mk A40
 clear A40
 by_cases c5 : t711 = 0
 ·rw [if_pos c5] at H
  have c5b1 : (t711 != 0) = false := bne_eq_false_iff_eq.mpr c5
  clear c5
  by_cases c6 : (l2.length : Int) = (l0.length : Int)
  ·rw [if_pos c6] at H
   have c6b1 : ((l2.length : Int) != (l0.length : Int)) = false := bne_eq_false_iff_eq.mpr c6
   clear c6
   have H' := Aside0.mk H
   clear H
   go_enter Try.func31, Try.ntmps31
   go_wp2_with (first | ((with_reducible refine gate_callee (f := 35) rfl ?_); refine goesL_ (some 16) rfl rfl Try.func35 m_13 rfl #[.slice A0 l0.length c0, .slice A1 l1.length c1] rfl m_2 ?_; (with_reducible refine (energy_Check.calls k _ _ l0 _ _ l1 t711 _ ?side1 ?side2 ?side3 ?side4 A4.out).mono ?_); (case side1 => exact cA_ HR0.out); (case side2 => exact HC0.out); (case side3 => exact cA_ HR1.out); (case side4 => exact HC1.out); rintro e w7 ⟨rfl, hb⟩; refine ⟨_, rfl, ?_⟩; replace HB := Aside0.mk (below_step m_1 hb); clear hb))
   go_loopg [9, 27] k (fun kq v9 v27 w' => ∃ (x9_1 : Int) (x27_1 : Int), v9 = .int .i64 x9_1 ∧ v27 = .int .i64 x27_1 ∧ Aside0 (energy_Cost.l0 kq l0 l1 x9_1 l2 (l2.length : Int) x27_1 = some (r1, r2)) ∧ Aside0 (kq ≤ k) ∧ Aside0 (Below w.heap.size w w'))
   case atStart => exact ⟨(0), (0), m_9, m_9, H', ⟨Nat.le_refl _⟩, ⟨m_1⟩⟩
   case round =>
    clear H'
    (try clear c1); (try clear c2); (try clear p2); (try clear c3); (try clear c5); (try skip); (try clear c5b1); (try clear c6); (try skip); (try clear c6b1); (try skip)
    obtain ⟨x9_1, x27_1, rfl, rfl, HA, HK1, HB⟩ := hrel
    cases gk with
    | zero => exact absurd HA.out (by simp [energy_Cost.l0])
    | succ k1 =>
     have H := HA.out
     clear HA
     simp only [energy_Cost.l0] at H
     by_cases c8 : x27_1 < (l2.length : Int)
     ·rw [if_pos c8] at H
      clear c8
      by_cases c9 : 0 ≤ x27_1
      ·rw [if_pos c9] at H
       have c9b0 : decide (0 ≤ x27_1) = true := decide_eq_true c9
       clear c9
       by_cases c10 : x27_1 < (l2.length : Int)
       ·rw [if_pos c10] at H
        have c10b0 : decide (x27_1 < (l2.length : Int)) = true := decide_eq_true c10
        clear c10
        by_cases c11 : x27_1 < (l0.length : Int)
        ·rw [if_pos c11] at H
         have c11b0 : decide (x27_1 < (l0.length : Int)) = true := decide_eq_true c11
         clear c11
         replace H := Option.bind_eq_some_iff.mp H
         obtain ⟨t715, A120, H⟩ := H
         replace H : (if x27_1 < (l1.length : Int) then (if rdOf false l1 x27_1 = true then (if (rd l2 x27_1) < ((rd_T24 l0 x27_1).f1) then (some (0, 3)) else (if (rd l2 x27_1) > t715 then (some (0, 3)) else ((energy_part.f k1 ((rd_T24 l0 x27_1).f2) (rd l2 x27_1)).bind fun t718 => (energy_Cost.l0 k1 l0 l1 (wrap64 (x9_1 + t718)) l2 (l2.length : Int) (wrap64 (x27_1 + 1)))))) else (if (rd l2 x27_1) < 0 then (some (0, 3)) else (if (rd l2 x27_1) > 0 then (some (0, 3)) else ((energy_part.f k1 ((rd_T24 l0 x27_1).f2) (rd l2 x27_1)).bind fun t720 => (energy_Cost.l0 k1 l0 l1 (wrap64 (x9_1 + t720)) l2 (l2.length : Int) (wrap64 (x27_1 + 1))))))) else (none)) = some (r1, r2) := H
         have A12 := Aside0.mk A120
         clear A120
         by_cases c13 : x27_1 < (l1.length : Int)
         ·rw [if_pos c13] at H
          have c13b0 : decide (x27_1 < (l1.length : Int)) = true := decide_eq_true c13
          clear c13
          obtain ⟨bq14, hbq14⟩ : ∃ b_ : Bool, b_ = (rdOf false l1 x27_1) := ⟨_, rfl⟩
          replace H : (if bq14 = true then (if (rd l2 x27_1) < ((rd_T24 l0 x27_1).f1) then (some (0, 3)) else (if (rd l2 x27_1) > t715 then (some (0, 3)) else ((energy_part.f k1 ((rd_T24 l0 x27_1).f2) (rd l2 x27_1)).bind fun t718 => (energy_Cost.l0 k1 l0 l1 (wrap64 (x9_1 + t718)) l2 (l2.length : Int) (wrap64 (x27_1 + 1)))))) else (if (rd l2 x27_1) < 0 then (some (0, 3)) else (if (rd l2 x27_1) > 0 then (some (0, 3)) else ((energy_part.f k1 ((rd_T24 l0 x27_1).f2) (rd l2 x27_1)).bind fun t720 => (energy_Cost.l0 k1 l0 l1 (wrap64 (x9_1 + t720)) l2 (l2.length : Int) (wrap64 (x27_1 + 1))))))) = some (r1, r2) := by rw [← hbq14] at H; exact H
          have Nbq14 := Aside0.mk hbq14
          clear hbq14
          have p712 : 0 ≤ (x27_1 : Int) := of_decide_eq_true m_4
          have q712 : x27_1 < (l2.length : Int) := of_decide_eq_true m_4
          obtain ⟨ad712, e712, hx712_0⟩ := Kd.at_int HR2.out x27_1 p712 q712
          cases e712
          replace hx712_0 := mv_ HB hx712_0
          replace p712 := eq_true p712
          replace q712 := eq_true q712
          try go_wp2
          replace HB := Aside0.mk (below_drew1 HB.out)
          have p713 : 0 ≤ (x27_1 : Int) := of_decide_eq_true m_4
          have q713 : x27_1 < (l0.length : Int) := of_decide_eq_true m_4
          obtain ⟨ad713, A713_2, c713_2, e713, hx713_0, hx713_1, hx713_2, hx713_3, hx713_4, hx713_5, hx713_6, hx713_7, hx713_8, hl713_2, hi713_2⟩ := at_T24 HR0.out x27_1 p713 q713
          have hw713_8 := hx713_8
          have hw713_7 := hx713_7
          have hw713_6 := hx713_6
          have hw713_5 := hx713_5
          have hw713_4 := hx713_4
          have hw713_3 := hx713_3
          have hw713_2 := hx713_2
          have hw713_1 := hx713_1
          have hw713_0 := hx713_0
          cases e713
          replace hx713_2 := mv_ HB hx713_2
          clear hi713_2 hl713_2
          replace q713 := eq_true q713
          have p714 : 0 ≤ (x27_1 : Int) := of_decide_eq_true m_4
          have q714 : x27_1 < (l0.length : Int) := of_decide_eq_true m_4
          obtain ⟨ad714, A714_2, c714_2, e714, hx714_0, hx714_1, hx714_2, hx714_3, hx714_4, hx714_5, hx714_6, hx714_7, hx714_8, hl714_2, hi714_2⟩ := at_T24 HR0.out x27_1 p714 q714
          have hw714_8 := hx714_8
          have hw714_7 := hx714_7
          have hw714_6 := hx714_6
          have hw714_5 := hx714_5
          have hw714_4 := hx714_4
          have hw714_3 := hx714_3
          have hw714_2 := hx714_2
          have hw714_1 := hx714_1
          have hw714_0 := hx714_0
          obtain rfl : ad713 = ad714 := (by injection e714)
          replace hx714_2 := mv_ HB hx714_2
          have HR714_2 := Aside0.mk hi714_2
          have HC714_2 := Aside0.mk hl714_2
          clear hi714_2 hl714_2
          have ea_ := Option.some.inj (hx713_2.symm.trans hx714_2)
          injection ea_ with ea_ en_ ec_
          subst ea_
          subst ec_
          clear en_
          refine start_ (n := 12) (S := fun w' => w'.cell? (ad713.add ((x27_1).toNat * 9)) = some (.int .i64 ((rd_T24 l0 x27_1).f0)) ∧ w'.cell? ⟨(ad713.add ((x27_1).toNat * 9)).block, (ad713.add ((x27_1).toNat * 9)).off + 1, none⟩ = some (.int .i64 ((rd_T24 l0 x27_1).f1)) ∧ w'.cell? ⟨(ad713.add ((x27_1).toNat * 9)).block, (ad713.add ((x27_1).toNat * 9)).off + 2, none⟩ = some (.slice A713_2 ((rd_T24 l0 x27_1).f2).length c713_2) ∧ w'.cell? ⟨(ad713.add ((x27_1).toNat * 9)).block, (ad713.add ((x27_1).toNat * 9)).off + 3, none⟩ = some (.int .i64 ((rd_T24 l0 x27_1).f3)) ∧ w'.cell? ⟨(ad713.add ((x27_1).toNat * 9)).block, (ad713.add ((x27_1).toNat * 9)).off + 4, none⟩ = some (.int .i64 ((rd_T24 l0 x27_1).f4)) ∧ w'.cell? ⟨(ad713.add ((x27_1).toNat * 9)).block, (ad713.add ((x27_1).toNat * 9)).off + 5, none⟩ = some (.int .i64 ((rd_T24 l0 x27_1).f5)) ∧ w'.cell? ⟨(ad713.add ((x27_1).toNat * 9)).block, (ad713.add ((x27_1).toNat * 9)).off + 6, none⟩ = some (.int .i64 ((rd_T24 l0 x27_1).f6)) ∧ w'.cell? ⟨(ad713.add ((x27_1).toNat * 9)).block, (ad713.add ((x27_1).toNat * 9)).off + 7, none⟩ = some (.int .i64 ((rd_T24 l0 x27_1).f7)) ∧ w'.cell? ⟨(ad713.add ((x27_1).toNat * 9)).block, (ad713.add ((x27_1).toNat * 9)).off + 8, none⟩ = some (.int .i64 ((rd_T24 l0 x27_1).f8)) ∧ w'.cell? (ad713.add ((x27_1).toNat * 9)) = some (.int .i64 ((rd_T24 l0 x27_1).f0)) ∧ w'.cell? ⟨(ad713.add ((x27_1).toNat * 9)).block, (ad713.add ((x27_1).toNat * 9)).off + 1, none⟩ = some (.int .i64 ((rd_T24 l0 x27_1).f1)) ∧ w'.cell? ⟨(ad713.add ((x27_1).toNat * 9)).block, (ad713.add ((x27_1).toNat * 9)).off + 2, none⟩ = some (.slice A713_2 ((rd_T24 l0 x27_1).f2).length c713_2) ∧ w'.cell? ⟨(ad713.add ((x27_1).toNat * 9)).block, (ad713.add ((x27_1).toNat * 9)).off + 3, none⟩ = some (.int .i64 ((rd_T24 l0 x27_1).f3)) ∧ w'.cell? ⟨(ad713.add ((x27_1).toNat * 9)).block, (ad713.add ((x27_1).toNat * 9)).off + 4, none⟩ = some (.int .i64 ((rd_T24 l0 x27_1).f4)) ∧ w'.cell? ⟨(ad713.add ((x27_1).toNat * 9)).block, (ad713.add ((x27_1).toNat * 9)).off + 5, none⟩ = some (.int .i64 ((rd_T24 l0 x27_1).f5)) ∧ w'.cell? ⟨(ad713.add ((x27_1).toNat * 9)).block, (ad713.add ((x27_1).toNat * 9)).off + 6, none⟩ = some (.int .i64 ((rd_T24 l0 x27_1).f6)) ∧ w'.cell? ⟨(ad713.add ((x27_1).toNat * 9)).block, (ad713.add ((x27_1).toNat * 9)).off + 7, none⟩ = some (.int .i64 ((rd_T24 l0 x27_1).f7)) ∧ w'.cell? ⟨(ad713.add ((x27_1).toNat * 9)).block, (ad713.add ((x27_1).toNat * 9)).off + 8, none⟩ = some (.int .i64 ((rd_T24 l0 x27_1).f8))) (ds := []) #[false, false, false, false, false, false, false, false, false, false, false, false] m_13 rfl rfl ⟨(mv_ HB hw713_0), (mv_ HB hw713_1), (mv_ HB hw713_2), (mv_ HB hw713_3), (mv_ HB hw713_4), (mv_ HB hw713_5), (mv_ HB hw713_6), (mv_ HB hw713_7), (mv_ HB hw713_8), (mv_ HB hw714_0), (mv_ HB hw714_1), (mv_ HB hw714_2), (mv_ HB hw714_3), (mv_ HB hw714_4), (mv_ HB hw714_5), (mv_ HB hw714_6), (mv_ HB hw714_7), (mv_ HB hw714_8)⟩ (fun hHeld => ?_); refine with_tabW energy_Cost.tab10 energy_Cost.bits10 (fun HT_ HW_ => ?_)
          generalize wr.drew = w17 at HB HR714_2 hx713_2 hx714_2 hHeld ⊢
          refine pA_ 0 HT_.out ?_
          refine pA_ 1 HT_.out ?_
          refine pA_ 2 HT_.out ?_
          refine pA_ 3 HT_.out ?_
          refine pA_ 5 HT_.out ?_
          refine pA_ 6 HT_.out ?_
          refine pA_ 7 HT_.out ?_
          refine tA_ 4 HT_.out HW_.out hHeld ?_
          refine tA_ 8 HT_.out HW_.out hHeld ?_
          refine cB_1 9 Try.func37 (args := #[.agg #[.int .i64 ((rd_T24 l0 x27_1).f0), .int .i64 ((rd_T24 l0 x27_1).f1), .slice A713_2 ((rd_T24 l0 x27_1).f2).length c713_2, .int .i64 ((rd_T24 l0 x27_1).f3), .int .i64 ((rd_T24 l0 x27_1).f4), .int .i64 ((rd_T24 l0 x27_1).f5), .int .i64 ((rd_T24 l0 x27_1).f6), .int .i64 ((rd_T24 l0 x27_1).f7), .int .i64 ((rd_T24 l0 x27_1).f8)]]) ?_
          with_reducible refine (unit_Max.calls k1 ((rd_T24 l0 x27_1).f0) ((rd_T24 l0 x27_1).f1) _ _ ((rd_T24 l0 x27_1).f2) ((rd_T24 l0 x27_1).f3) ((rd_T24 l0 x27_1).f4) ((rd_T24 l0 x27_1).f5) ((rd_T24 l0 x27_1).f6) ((rd_T24 l0 x27_1).f7) ((rd_T24 l0 x27_1).f8) t715 _ ?side1 ?side2 A12.out).mono ?_
          (case side1 => exact cA_ (Kd.C_below HR714_2.out HB.out))
          (case side2 => exact HC714_2.out)
          rintro e w18 ⟨rfl, hb⟩
          refine ⟨_, rfl, ?_⟩
          replace HB := Aside0.mk (below_step m_1 hb)
          (try clear hb); (try clear hb2); (try clear hk); (try clear hi)
          refine nx_ ⟨(mv_ HB hw713_0), (mv_ HB hw713_1), (mv_ HB hw713_2), (mv_ HB hw713_3), (mv_ HB hw713_4), (mv_ HB hw713_5), (mv_ HB hw713_6), (mv_ HB hw713_7), (mv_ HB hw713_8), (mv_ HB hw714_0), (mv_ HB hw714_1), (mv_ HB hw714_2), (mv_ HB hw714_3), (mv_ HB hw714_4), (mv_ HB hw714_5), (mv_ HB hw714_6), (mv_ HB hw714_7), (mv_ HB hw714_8)⟩ (fun hHeld => ?_)
          refine pA_ 10 HT_.out ?_
          refine pA_ 11 HT_.out ?_
          refine done_ (done_of HT_.out m_13) ?_
          have p716 : 0 ≤ (x27_1 : Int) := of_decide_eq_true m_4
          have q716 : x27_1 < (l1.length : Int) := of_decide_eq_true m_4
          obtain ⟨ad716, e716, hx716_0⟩ := Kd.at_bool HR1.out x27_1 p716 q716
          (try rw [← Nbq14.out] at hx716_0)
          cases e716
          replace hx716_0 := mv_ HB hx716_0
          replace q716 := eq_true q716
          by_cases c15 : bq14 = true
          ·subst c15
           have H1 : (if (rd l2 x27_1) < ((rd_T24 l0 x27_1).f1) then (some (0, 3)) else (if (rd l2 x27_1) > t715 then (some (0, 3)) else ((energy_part.f k1 ((rd_T24 l0 x27_1).f2) (rd l2 x27_1)).bind fun t718 => (energy_Cost.l0 k1 l0 l1 (wrap64 (x9_1 + t718)) l2 (l2.length : Int) (wrap64 (x27_1 + 1)))))) = some (r1, r2) := by rw [if_pos rfl] at H; exact H
           clear H
           have H := H1
           clear H1
           by_cases c16 : (rd l2 x27_1) < ((rd_T24 l0 x27_1).f1)
           ·rw [if_pos c16] at H
            have c16b0 : decide ((rd l2 x27_1) < ((rd_T24 l0 x27_1).f1)) = true := decide_eq_true c16
            clear c16
            simp only [Option.some.injEq, Prod.mk.injEq] at H
            obtain ⟨rfl, rfl⟩ := H
            try go_wp2
            go_ret2
            exact ⟨m_5, m_1⟩
           ·rw [if_neg c16] at H
            have c16b0 : decide ((rd l2 x27_1) < ((rd_T24 l0 x27_1).f1)) = false := decide_eq_false c16
            clear c16
            by_cases c19 : (rd l2 x27_1) > t715
            ·rw [if_pos c19] at H
             have c19b0 : decide (t715 < (rd l2 x27_1)) = true := decide_eq_true c19
             clear c19
             simp only [Option.some.injEq, Prod.mk.injEq] at H
             obtain ⟨rfl, rfl⟩ := H
             try go_wp2
             go_ret2
             exact ⟨m_5, m_1⟩
            ·rw [if_neg c19] at H
             have c19b0 : decide (t715 < (rd l2 x27_1)) = false := decide_eq_false c19
             clear c19
             replace H := Option.bind_eq_some_iff.mp H
             obtain ⟨t718, A220, H⟩ := H
             replace H : (energy_Cost.l0 k1 l0 l1 (wrap64 (x9_1 + t718)) l2 (l2.length : Int) (wrap64 (x27_1 + 1))) = some (r1, r2) := H
             have A22 := Aside0.mk A220
             clear A220
             have H' := Aside0.mk H
             clear H
             have p717 : 0 ≤ (x27_1 : Int) := of_decide_eq_true m_4
             have q717 : x27_1 < (l0.length : Int) := of_decide_eq_true m_4
             obtain ⟨ad717, A717_2, c717_2, e717, hx717_0, hx717_1, hx717_2, hx717_3, hx717_4, hx717_5, hx717_6, hx717_7, hx717_8, hl717_2, hi717_2⟩ := at_T24 HR0.out x27_1 p717 q717
             obtain rfl : ad713 = ad717 := (by injection e717)
             have ea_ := Option.some.inj (hw713_2.symm.trans hx717_2)
             injection ea_ with ea_ en_ ec_
             subst ea_
             subst ec_
             clear en_
             have HR717_2 := Aside0.mk hi717_2
             have HC717_2 := Aside0.mk hl717_2
             clear hi717_2 hl717_2
             try go_wp2_with (first | ((with_reducible refine gate_callee (f := 54) rfl ?_); refine goesL_ (some 62) rfl rfl Try.func54 m_13 rfl #[.slice A713_2 ((rd_T24 l0 x27_1).f2).length c713_2, .int .i64 (rd l2 x27_1)] rfl m_2 ?_; (with_reducible refine (energy_part.calls k1 _ _ ((rd_T24 l0 x27_1).f2) (rd l2 x27_1) t718 _ ?side1 ?side2 A22.out).mono ?_); (case side1 => exact cA_ (Kd.C_below HR717_2.out HB.out)); (case side2 => exact HC717_2.out); rintro e w25 ⟨rfl, hb⟩; refine ⟨_, rfl, ?_⟩; replace HB := Aside0.mk (below_step m_1 hb); clear hb))
             go_roundg k1
             case measure => have := HK1.out; omega
             case rel => exact ⟨(wrap64 (x9_1 + t718)), (wrap64 (x27_1 + 1)), m_9, m_9, H', ⟨m_119⟩, ⟨m_1⟩⟩
          ·replace c15 := Bool.eq_false_iff.mpr c15
           subst c15
           have H1 : (if (rd l2 x27_1) < 0 then (some (0, 3)) else (if (rd l2 x27_1) > 0 then (some (0, 3)) else ((energy_part.f k1 ((rd_T24 l0 x27_1).f2) (rd l2 x27_1)).bind fun t720 => (energy_Cost.l0 k1 l0 l1 (wrap64 (x9_1 + t720)) l2 (l2.length : Int) (wrap64 (x27_1 + 1)))))) = some (r1, r2) := by rw [if_neg (show ¬ (false = true) by decide)] at H; exact H
           clear H
           have H := H1
           clear H1
           by_cases c26 : (rd l2 x27_1) < 0
           ·rw [if_pos c26] at H
            have c26b0 : decide ((rd l2 x27_1) < 0) = true := decide_eq_true c26
            clear c26
            simp only [Option.some.injEq, Prod.mk.injEq] at H
            obtain ⟨rfl, rfl⟩ := H
            try go_wp2
            go_ret2
            exact ⟨m_5, m_1⟩
           ·rw [if_neg c26] at H
            have c26b0 : decide ((rd l2 x27_1) < 0) = false := decide_eq_false c26
            clear c26
            by_cases c29 : (rd l2 x27_1) > 0
            ·rw [if_pos c29] at H
             have c29b0 : decide (0 < (rd l2 x27_1)) = true := decide_eq_true c29
             clear c29
             simp only [Option.some.injEq, Prod.mk.injEq] at H
             obtain ⟨rfl, rfl⟩ := H
             try go_wp2
             go_ret2
             exact ⟨m_5, m_1⟩
            ·rw [if_neg c29] at H
             have c29b0 : decide (0 < (rd l2 x27_1)) = false := decide_eq_false c29
             clear c29
             replace H := Option.bind_eq_some_iff.mp H
             obtain ⟨t720, A320, H⟩ := H
             replace H : (energy_Cost.l0 k1 l0 l1 (wrap64 (x9_1 + t720)) l2 (l2.length : Int) (wrap64 (x27_1 + 1))) = some (r1, r2) := H
             have A32 := Aside0.mk A320
             clear A320
             have H' := Aside0.mk H
             clear H
             have p719 : 0 ≤ (x27_1 : Int) := of_decide_eq_true m_4
             have q719 : x27_1 < (l0.length : Int) := of_decide_eq_true m_4
             obtain ⟨ad719, A719_2, c719_2, e719, hx719_0, hx719_1, hx719_2, hx719_3, hx719_4, hx719_5, hx719_6, hx719_7, hx719_8, hl719_2, hi719_2⟩ := at_T24 HR0.out x27_1 p719 q719
             obtain rfl : ad713 = ad719 := (by injection e719)
             have ea_ := Option.some.inj (hw713_2.symm.trans hx719_2)
             injection ea_ with ea_ en_ ec_
             subst ea_
             subst ec_
             clear en_
             have HR719_2 := Aside0.mk hi719_2
             have HC719_2 := Aside0.mk hl719_2
             clear hi719_2 hl719_2
             try go_wp2_with (first | ((with_reducible refine gate_callee (f := 54) rfl ?_); refine goesL_ (some 62) rfl rfl Try.func54 m_13 rfl #[.slice A713_2 ((rd_T24 l0 x27_1).f2).length c713_2, .int .i64 (rd l2 x27_1)] rfl m_2 ?_; (with_reducible refine (energy_part.calls k1 _ _ ((rd_T24 l0 x27_1).f2) (rd l2 x27_1) t720 _ ?side1 ?side2 A32.out).mono ?_); (case side1 => exact cA_ (Kd.C_below HR719_2.out HB.out)); (case side2 => exact HC719_2.out); rintro e w35 ⟨rfl, hb⟩; refine ⟨_, rfl, ?_⟩; replace HB := Aside0.mk (below_step m_1 hb); clear hb))
             go_roundg k1
             case measure => have := HK1.out; omega
             case rel => exact ⟨(wrap64 (x9_1 + t720)), (wrap64 (x27_1 + 1)), m_9, m_9, H', ⟨m_119⟩, ⟨m_1⟩⟩
         ·rw [if_neg c13] at H
          exact absurd H (by simp)
        ·rw [if_neg c11] at H
         exact absurd H (by simp)
       ·rw [if_neg c10] at H
        exact absurd H (by simp)
      ·rw [if_neg c9] at H
       exact absurd H (by simp)
     ·rw [if_neg c8] at H
      have c8b0 : decide (x27_1 < (l2.length : Int)) = false := decide_eq_false c8
      clear c8
      simp only [Option.some.injEq, Prod.mk.injEq] at H
      obtain ⟨rfl, rfl⟩ := H
      go_wp2
      go_ret2
      exact ⟨m_5, m_1⟩
  ·rw [if_neg c6] at H
   have c6b1 : ((l2.length : Int) != (l0.length : Int)) = true := bne_iff_ne.mpr c6
   simp only [Option.some.injEq, Prod.mk.injEq] at H
   obtain ⟨rfl, rfl⟩ := H
   go_enter Try.func31, Try.ntmps31
   go_wp2_with (first | ((with_reducible refine gate_callee (f := 35) rfl ?_); refine goesL_ (some 16) rfl rfl Try.func35 m_13 rfl #[.slice A0 l0.length c0, .slice A1 l1.length c1] rfl m_2 ?_; (with_reducible refine (energy_Check.calls k _ _ l0 _ _ l1 t711 _ ?side1 ?side2 ?side3 ?side4 A4.out).mono ?_); (case side1 => exact cA_ HR0.out); (case side2 => exact HC0.out); (case side3 => exact cA_ HR1.out); (case side4 => exact HC1.out); rintro e w36 ⟨rfl, hb⟩; refine ⟨_, rfl, ?_⟩; replace HB := Aside0.mk (below_step m_1 hb); clear hb))
   go_ret2
   exact ⟨m_5, m_1⟩
 ·rw [if_neg c5] at H
  have c5b1 : (t711 != 0) = true := bne_iff_ne.mpr c5
  simp only [Option.some.injEq, Prod.mk.injEq] at H
  obtain ⟨rfl, rfl⟩ := H
  go_enter Try.func31, Try.ntmps31
  go_wp2_with (first | ((with_reducible refine gate_callee (f := 35) rfl ?_); refine goesL_ (some 16) rfl rfl Try.func35 m_13 rfl #[.slice A0 l0.length c0, .slice A1 l1.length c1] rfl m_2 ?_; (with_reducible refine (energy_Check.calls k _ _ l0 _ _ l1 t711 _ ?side1 ?side2 ?side3 ?side4 A4.out).mono ?_); (case side1 => exact cA_ HR0.out); (case side2 => exact HC0.out); (case side3 => exact cA_ HR1.out); (case side4 => exact HC1.out); rintro e w37 ⟨rfl, hb⟩; refine ⟨_, rfl, ?_⟩; replace HB := Aside0.mk (below_step m_1 hb); clear hb))
  go_ret2
  exact ⟨m_5, m_1⟩
end Go.Proofs.Ytelklgdmhnkenaa.U
namespace Go.Proofs.Ytelklgdmhnkenaa.U
attribute [local go_sem] max2_int min2_int max_two min_two max_three min_three max_four min_four
def energy_Range.l0 : Nat → List Bool → Int → Int → List (S24) → Int → Int → Option (Int × Int × Int)
 | 0, _, _, _, _, _, _ => none
 | k + 1, x1, x4, x5, x16, x17, x18 => if x18 < x17 then (if 0 ≤ x18 then (if x18 < (x16.length : Int) then (if x18 < (x1.length : Int) then (if rdOf false x1 x18 = true then ((unit_Max.f k ((rd_T24 x16 x18).f0) ((rd_T24 x16 x18).f1) ((rd_T24 x16 x18).f2) ((rd_T24 x16 x18).f3) ((rd_T24 x16 x18).f4) ((rd_T24 x16 x18).f5) ((rd_T24 x16 x18).f6) ((rd_T24 x16 x18).f7) ((rd_T24 x16 x18).f8)).bind fun t725 => (energy_Range.l0 k x1 (wrap64 (x4 + ((rd_T24 x16 x18).f1))) (wrap64 (x5 + t725)) x16 x17 (wrap64 (x18 + 1)))) else (energy_Range.l0 k x1 x4 x5 x16 x17 (wrap64 (x18 + 1)))) else (none)) else (none)) else (none)) else (some (x4, x5, 0))
def energy_Range.f (k : Nat) (l0 : List (S24)) (l1 : List Bool) : Option (Int × Int × Int) := (energy_Check.f k l0 l1).bind fun t721 => (if t721 = 0 then (energy_Range.l0 k l1 0 0 l0 (l0.length : Int) 0) else (some (0, 0, t721)))
set_option maxHeartbeats 8000000 in
set_option maxRecDepth 100000 in
theorem energy_Range.calls (k : Nat) (A0 : Option Addr) (c0 : Nat) (l0 : List (S24)) (A1 : Option Addr) (c1 : Nat) (l1 : List Bool) (r1 : Int) (r2 : Int) (r3 : Int) (w : World) (hr0 : Kd.C k24 w A0 l0.length l0) (hc0 : l0.length ≤ c0) (hr1 : Kd.C Kd.bool w A1 l1.length l1) (hc1 : l1.length ≤ c1) (h : energy_Range.f k l0 l1 = some (r1, r2, r3)) :
  Calls Try.prog 52 #[.slice A0 l0.length c0, .slice A1 l1.length c1] w fun e w' => e = .returned (.tuple #[.int .i64 r1, .int .i64 r2, .int .i64 r3]) ∧ Below w.heap.size w w' := by
 have HR0 := Aside0.mk hr0
 have HC0 := Aside0.mk hc0
 clear hr0 hc0
 have HR1 := Aside0.mk hr1
 have HC1 := Aside0.mk hc1
 clear hr1 hc1
 have HB := Aside0.mk (Below.refl w.heap.size w)
 have H : ((energy_Check.f k l0 l1).bind fun t721 => (if t721 = 0 then (energy_Range.l0 k l1 0 0 l0 (l0.length : Int) 0) else (some (0, 0, t721)))) = some (r1, r2, r3) := h
 clear h
 replace H := Option.bind_eq_some_iff.mp H
 obtain ⟨t721, A30, H⟩ := H
 replace H : (if t721 = 0 then (energy_Range.l0 k l1 0 0 l0 (l0.length : Int) 0) else (some (0, 0, t721))) = some (r1, r2, r3) := H
 have A3 := Aside0.mk A30
 clear A30
 by_cases c4 : t721 = 0
 ·rw [if_pos c4] at H
  have c4b1 : (t721 != 0) = false := bne_eq_false_iff_eq.mpr c4
  clear c4
  have H' := Aside0.mk H
  clear H
  go_enter Try.func52, Try.ntmps52
  go_wp2_with (first | ((with_reducible refine gate_callee (f := 35) rfl ?_); refine goesL_ (some 12) rfl rfl Try.func35 m_13 rfl #[.slice A0 l0.length c0, .slice A1 l1.length c1] rfl m_2 ?_; (with_reducible refine (energy_Check.calls k _ _ l0 _ _ l1 t721 _ ?side1 ?side2 ?side3 ?side4 A3.out).mono ?_); (case side1 => exact cA_ HR0.out); (case side2 => exact HC0.out); (case side3 => exact cA_ HR1.out); (case side4 => exact HC1.out); rintro e w5 ⟨rfl, hb⟩; refine ⟨_, rfl, ?_⟩; replace HB := Aside0.mk (below_step m_1 hb); clear hb))
  go_loopg [4, 5, 18] k (fun kq v4 v5 v18 w' => ∃ (x4_1 : Int) (x5_1 : Int) (x18_1 : Int), v4 = .int .i64 x4_1 ∧ v5 = .int .i64 x5_1 ∧ v18 = .int .i64 x18_1 ∧ Aside0 (energy_Range.l0 kq l1 x4_1 x5_1 l0 (l0.length : Int) x18_1 = some (r1, r2, r3)) ∧ Aside0 (kq ≤ k) ∧ Aside0 (Below w.heap.size w w'))
  case atStart => exact ⟨(0), (0), (0), m_9, m_9, m_9, H', ⟨Nat.le_refl _⟩, ⟨m_1⟩⟩
  case round =>
   clear H'
   (try clear c1); (try clear p2); (try clear c3); (try clear c4); (try skip); (try clear c4b1); (try clear c5)
   obtain ⟨x4_1, x5_1, x18_1, rfl, rfl, rfl, HA, HK1, HB⟩ := hrel
   cases gk with
   | zero => exact absurd HA.out (by simp [energy_Range.l0])
   | succ k1 =>
    have H := HA.out
    clear HA
    simp only [energy_Range.l0] at H
    by_cases c6 : x18_1 < (l0.length : Int)
    ·rw [if_pos c6] at H
     clear c6
     by_cases c7 : 0 ≤ x18_1
     ·rw [if_pos c7] at H
      have c7b0 : decide (0 ≤ x18_1) = true := decide_eq_true c7
      clear c7
      by_cases c8 : x18_1 < (l0.length : Int)
      ·rw [if_pos c8] at H
       have c8b0 : decide (x18_1 < (l0.length : Int)) = true := decide_eq_true c8
       clear c8
       by_cases c9 : x18_1 < (l1.length : Int)
       ·rw [if_pos c9] at H
        have c9b0 : decide (x18_1 < (l1.length : Int)) = true := decide_eq_true c9
        clear c9
        obtain ⟨bq10, hbq10⟩ : ∃ b_ : Bool, b_ = (rdOf false l1 x18_1) := ⟨_, rfl⟩
        replace H : (if bq10 = true then ((unit_Max.f k1 ((rd_T24 l0 x18_1).f0) ((rd_T24 l0 x18_1).f1) ((rd_T24 l0 x18_1).f2) ((rd_T24 l0 x18_1).f3) ((rd_T24 l0 x18_1).f4) ((rd_T24 l0 x18_1).f5) ((rd_T24 l0 x18_1).f6) ((rd_T24 l0 x18_1).f7) ((rd_T24 l0 x18_1).f8)).bind fun t725 => (energy_Range.l0 k1 l1 (wrap64 (x4_1 + ((rd_T24 l0 x18_1).f1))) (wrap64 (x5_1 + t725)) l0 (l0.length : Int) (wrap64 (x18_1 + 1)))) else (energy_Range.l0 k1 l1 x4_1 x5_1 l0 (l0.length : Int) (wrap64 (x18_1 + 1)))) = some (r1, r2, r3) := by rw [← hbq10] at H; exact H
        have Nbq10 := Aside0.mk hbq10
        clear hbq10
        by_cases c11 : bq10 = true
        ·subst c11
         have H1 : ((unit_Max.f k1 ((rd_T24 l0 x18_1).f0) ((rd_T24 l0 x18_1).f1) ((rd_T24 l0 x18_1).f2) ((rd_T24 l0 x18_1).f3) ((rd_T24 l0 x18_1).f4) ((rd_T24 l0 x18_1).f5) ((rd_T24 l0 x18_1).f6) ((rd_T24 l0 x18_1).f7) ((rd_T24 l0 x18_1).f8)).bind fun t725 => (energy_Range.l0 k1 l1 (wrap64 (x4_1 + ((rd_T24 l0 x18_1).f1))) (wrap64 (x5_1 + t725)) l0 (l0.length : Int) (wrap64 (x18_1 + 1)))) = some (r1, r2, r3) := by rw [if_pos rfl] at H; exact H
         clear H
         have H := H1
         clear H1
         replace H := Option.bind_eq_some_iff.mp H
         obtain ⟨t725, A120, H⟩ := H
         replace H : (energy_Range.l0 k1 l1 (wrap64 (x4_1 + ((rd_T24 l0 x18_1).f1))) (wrap64 (x5_1 + t725)) l0 (l0.length : Int) (wrap64 (x18_1 + 1))) = some (r1, r2, r3) := H
         have A12 := Aside0.mk A120
         clear A120
         have H' := Aside0.mk H
         clear H
         have p722 : 0 ≤ (x18_1 : Int) := of_decide_eq_true m_4
         have q722 : x18_1 < (l0.length : Int) := of_decide_eq_true m_4
         obtain ⟨ad722, A722_2, c722_2, e722, hx722_0, hx722_1, hx722_2, hx722_3, hx722_4, hx722_5, hx722_6, hx722_7, hx722_8, hl722_2, hi722_2⟩ := at_T24 HR0.out x18_1 p722 q722
         cases e722
         replace hx722_0 := mv_ HB hx722_0
         replace hx722_1 := mv_ HB hx722_1
         replace hx722_2 := mv_ HB hx722_2
         replace hx722_3 := mv_ HB hx722_3
         replace hx722_4 := mv_ HB hx722_4
         replace hx722_5 := mv_ HB hx722_5
         replace hx722_6 := mv_ HB hx722_6
         replace hx722_7 := mv_ HB hx722_7
         replace hx722_8 := mv_ HB hx722_8
         have HR722_2 := Aside0.mk hi722_2
         have HC722_2 := Aside0.mk hl722_2
         clear hi722_2 hl722_2
         replace p722 := eq_true p722
         replace q722 := eq_true q722
         go_wp2_with (first | ((with_reducible refine gate_dst (N := 9) rfl ?_); refine box_event ?hg (N := 9) ?hd (cs := #[.int .i64 0, .int .i64 0, .slice none 0 0, .int .i64 0, .int .i64 0, .int .i64 0, .int .i64 0, .int .i64 0, .int .i64 0]) (t := 24) ?hr ?_; (case hd => rfl); (case hg => rfl); (case hr => exact hr_); intro gb723 hg w13 hbox hb; have BK723 := Aside0.mk (hbox); have GW723 := gW_ (w := w) hg m_1; have GE723 := gW_ (w := w) hg m_1; replace HB := Aside0.mk (below_step m_1 hb); clear hb hbox hg; obtain ⟨hcz14_0, hcz14_1, hcz14_2, hcz14_3, hcz14_4, hcz14_5, hcz14_6, hcz14_7, hcz14_8, hfz14_0, hfz14_1, hfz14_2, hfz14_3, hfz14_4, hfz14_5, hfz14_6, hfz14_7, hfz14_8⟩ := cf9_ BK723; have p724 : 0 ≤ (x18_1 : Int) := of_decide_eq_true m_4; have q724 : x18_1 < (l1.length : Int) := of_decide_eq_true m_4; obtain ⟨ad724, e724, hx724_0⟩ := Kd.at_bool HR1.out x18_1 p724 q724; (try rw [← Nbq10.out] at hx724_0); cases e724; have hn724_0 : ad724.block ≠ gb723 := Nat.ne_of_lt (Nat.lt_of_lt_of_le m_34 GW723.out); have hn724_1 : ad724.block ≠ gb723 := Nat.ne_of_lt (Nat.lt_of_lt_of_le m_34 GW723.out); have hn724_2 : ad724.block ≠ gb723 := Nat.ne_of_lt (Nat.lt_of_lt_of_le m_34 GW723.out); have hn724_3 : ad724.block ≠ gb723 := Nat.ne_of_lt (Nat.lt_of_lt_of_le m_34 GW723.out); have hn724_4 : ad724.block ≠ gb723 := Nat.ne_of_lt (Nat.lt_of_lt_of_le m_34 GW723.out); have hn724_5 : ad724.block ≠ gb723 := Nat.ne_of_lt (Nat.lt_of_lt_of_le m_34 GW723.out); have hn724_6 : ad724.block ≠ gb723 := Nat.ne_of_lt (Nat.lt_of_lt_of_le m_34 GW723.out); have hn724_7 : ad724.block ≠ gb723 := Nat.ne_of_lt (Nat.lt_of_lt_of_le m_34 GW723.out); have hn724_8 : ad724.block ≠ gb723 := Nat.ne_of_lt (Nat.lt_of_lt_of_le m_34 GW723.out); replace hx724_0 := mv_ HB hx724_0; replace hx724_0 := (cell_far (p := ⟨gb723, 0, none⟩) m_143 (.int .i64 ((rd_T24 l0 x18_1).f0))).trans hx724_0; replace hx724_0 := (cell_far (p := ⟨gb723, 1, none⟩) m_142 (.int .i64 ((rd_T24 l0 x18_1).f1))).trans hx724_0; replace hx724_0 := (cell_far (p := ⟨gb723, 2, none⟩) m_141 (.slice A722_2 ((rd_T24 l0 x18_1).f2).length c722_2)).trans hx724_0; replace hx724_0 := (cell_far (p := ⟨gb723, 3, none⟩) m_140 (.int .i64 ((rd_T24 l0 x18_1).f3))).trans hx724_0; replace hx724_0 := (cell_far (p := ⟨gb723, 4, none⟩) m_139 (.int .i64 ((rd_T24 l0 x18_1).f4))).trans hx724_0; replace hx724_0 := (cell_far (p := ⟨gb723, 5, none⟩) m_138 (.int .i64 ((rd_T24 l0 x18_1).f5))).trans hx724_0; replace hx724_0 := (cell_far (p := ⟨gb723, 6, none⟩) m_137 (.int .i64 ((rd_T24 l0 x18_1).f6))).trans hx724_0; replace hx724_0 := (cell_far (p := ⟨gb723, 7, none⟩) m_136 (.int .i64 ((rd_T24 l0 x18_1).f7))).trans hx724_0; replace hx724_0 := (cell_far (p := ⟨gb723, 8, none⟩) m_135 (.int .i64 ((rd_T24 l0 x18_1).f8))).trans hx724_0; clear hn724_0; clear hn724_1; clear hn724_2; clear hn724_3; clear hn724_4; clear hn724_5; clear hn724_6; clear hn724_7; clear hn724_8; replace q724 := eq_true q724) | ((with_reducible refine gate_callee (f := 37) rfl ?_); refine goesL_ (some 33) rfl rfl Try.func37 m_13 rfl #[.agg #[.int .i64 ((rd_T24 l0 x18_1).f0), .int .i64 ((rd_T24 l0 x18_1).f1), .slice A722_2 ((rd_T24 l0 x18_1).f2).length c722_2, .int .i64 ((rd_T24 l0 x18_1).f3), .int .i64 ((rd_T24 l0 x18_1).f4), .int .i64 ((rd_T24 l0 x18_1).f5), .int .i64 ((rd_T24 l0 x18_1).f6), .int .i64 ((rd_T24 l0 x18_1).f7), .int .i64 ((rd_T24 l0 x18_1).f8)]] rfl m_2 ?_; (with_reducible refine (unit_Max.calls k1 ((rd_T24 l0 x18_1).f0) ((rd_T24 l0 x18_1).f1) _ _ ((rd_T24 l0 x18_1).f2) ((rd_T24 l0 x18_1).f3) ((rd_T24 l0 x18_1).f4) ((rd_T24 l0 x18_1).f5) ((rd_T24 l0 x18_1).f6) ((rd_T24 l0 x18_1).f7) ((rd_T24 l0 x18_1).f8) t725 _ ?side1 ?side2 A12.out).mono ?_); (case side1 => exact Kd.C_below HR722_2.out m_74); (case side2 => exact HC722_2.out); rintro e w15 ⟨rfl, hb⟩; refine ⟨_, rfl, ?_⟩; replace HB := Aside0.mk (below_step m_74 hb); clear hb))
         go_roundg k1
         case measure => have := HK1.out; omega
         case rel => exact ⟨(wrap64 (x4_1 + ((rd_T24 l0 x18_1).f1))), (wrap64 (x5_1 + t725)), (wrap64 (x18_1 + 1)), m_9, m_9, m_9, H', ⟨m_119⟩, ⟨m_74⟩⟩
        ·replace c11 := Bool.eq_false_iff.mpr c11
         subst c11
         have H1 : (energy_Range.l0 k1 l1 x4_1 x5_1 l0 (l0.length : Int) (wrap64 (x18_1 + 1))) = some (r1, r2, r3) := by rw [if_neg (show ¬ (false = true) by decide)] at H; exact H
         clear H
         have H := H1
         clear H1
         have H' := Aside0.mk H
         clear H
         have p722 : 0 ≤ (x18_1 : Int) := of_decide_eq_true m_4
         have q722 : x18_1 < (l0.length : Int) := of_decide_eq_true m_4
         obtain ⟨ad722, A722_2, c722_2, e722, hx722_0, hx722_1, hx722_2, hx722_3, hx722_4, hx722_5, hx722_6, hx722_7, hx722_8, hl722_2, hi722_2⟩ := at_T24 HR0.out x18_1 p722 q722
         cases e722
         replace hx722_0 := mv_ HB hx722_0
         replace hx722_1 := mv_ HB hx722_1
         replace hx722_2 := mv_ HB hx722_2
         replace hx722_3 := mv_ HB hx722_3
         replace hx722_4 := mv_ HB hx722_4
         replace hx722_5 := mv_ HB hx722_5
         replace hx722_6 := mv_ HB hx722_6
         replace hx722_7 := mv_ HB hx722_7
         replace hx722_8 := mv_ HB hx722_8
         clear hi722_2 hl722_2
         replace p722 := eq_true p722
         replace q722 := eq_true q722
         go_wp2_with (first | ((with_reducible refine gate_dst (N := 9) rfl ?_); refine box_event ?hg (N := 9) ?hd (cs := #[.int .i64 0, .int .i64 0, .slice none 0 0, .int .i64 0, .int .i64 0, .int .i64 0, .int .i64 0, .int .i64 0, .int .i64 0]) (t := 24) ?hr ?_; (case hd => rfl); (case hg => rfl); (case hr => exact hr_); intro gb723 hg w16 hbox hb; have BK723 := Aside0.mk (hbox); have GW723 := gW_ (w := w) hg m_1; have GE723 := gW_ (w := w) hg m_1; replace HB := Aside0.mk (below_step m_1 hb); clear hb hbox hg; obtain ⟨hcz17_0, hcz17_1, hcz17_2, hcz17_3, hcz17_4, hcz17_5, hcz17_6, hcz17_7, hcz17_8, hfz17_0, hfz17_1, hfz17_2, hfz17_3, hfz17_4, hfz17_5, hfz17_6, hfz17_7, hfz17_8⟩ := cf9_ BK723; have p724 : 0 ≤ (x18_1 : Int) := of_decide_eq_true m_4; have q724 : x18_1 < (l1.length : Int) := of_decide_eq_true m_4; obtain ⟨ad724, e724, hx724_0⟩ := Kd.at_bool HR1.out x18_1 p724 q724; (try rw [← Nbq10.out] at hx724_0); cases e724; have hn724_0 : ad724.block ≠ gb723 := Nat.ne_of_lt (Nat.lt_of_lt_of_le m_34 GW723.out); have hn724_1 : ad724.block ≠ gb723 := Nat.ne_of_lt (Nat.lt_of_lt_of_le m_34 GW723.out); have hn724_2 : ad724.block ≠ gb723 := Nat.ne_of_lt (Nat.lt_of_lt_of_le m_34 GW723.out); have hn724_3 : ad724.block ≠ gb723 := Nat.ne_of_lt (Nat.lt_of_lt_of_le m_34 GW723.out); have hn724_4 : ad724.block ≠ gb723 := Nat.ne_of_lt (Nat.lt_of_lt_of_le m_34 GW723.out); have hn724_5 : ad724.block ≠ gb723 := Nat.ne_of_lt (Nat.lt_of_lt_of_le m_34 GW723.out); have hn724_6 : ad724.block ≠ gb723 := Nat.ne_of_lt (Nat.lt_of_lt_of_le m_34 GW723.out); have hn724_7 : ad724.block ≠ gb723 := Nat.ne_of_lt (Nat.lt_of_lt_of_le m_34 GW723.out); have hn724_8 : ad724.block ≠ gb723 := Nat.ne_of_lt (Nat.lt_of_lt_of_le m_34 GW723.out); replace hx724_0 := mv_ HB hx724_0; replace hx724_0 := (cell_far (p := ⟨gb723, 0, none⟩) m_143 (.int .i64 ((rd_T24 l0 x18_1).f0))).trans hx724_0; replace hx724_0 := (cell_far (p := ⟨gb723, 1, none⟩) m_142 (.int .i64 ((rd_T24 l0 x18_1).f1))).trans hx724_0; replace hx724_0 := (cell_far (p := ⟨gb723, 2, none⟩) m_141 (.slice A722_2 ((rd_T24 l0 x18_1).f2).length c722_2)).trans hx724_0; replace hx724_0 := (cell_far (p := ⟨gb723, 3, none⟩) m_140 (.int .i64 ((rd_T24 l0 x18_1).f3))).trans hx724_0; replace hx724_0 := (cell_far (p := ⟨gb723, 4, none⟩) m_139 (.int .i64 ((rd_T24 l0 x18_1).f4))).trans hx724_0; replace hx724_0 := (cell_far (p := ⟨gb723, 5, none⟩) m_138 (.int .i64 ((rd_T24 l0 x18_1).f5))).trans hx724_0; replace hx724_0 := (cell_far (p := ⟨gb723, 6, none⟩) m_137 (.int .i64 ((rd_T24 l0 x18_1).f6))).trans hx724_0; replace hx724_0 := (cell_far (p := ⟨gb723, 7, none⟩) m_136 (.int .i64 ((rd_T24 l0 x18_1).f7))).trans hx724_0; replace hx724_0 := (cell_far (p := ⟨gb723, 8, none⟩) m_135 (.int .i64 ((rd_T24 l0 x18_1).f8))).trans hx724_0; clear hn724_0; clear hn724_1; clear hn724_2; clear hn724_3; clear hn724_4; clear hn724_5; clear hn724_6; clear hn724_7; clear hn724_8; replace q724 := eq_true q724))
         go_roundg k1
         case measure => have := HK1.out; omega
         case rel => exact ⟨(x4_1), (x5_1), (wrap64 (x18_1 + 1)), m_9, m_9, m_9, H', ⟨m_119⟩, ⟨m_74⟩⟩
       ·rw [if_neg c9] at H
        exact absurd H (by simp)
      ·rw [if_neg c8] at H
       exact absurd H (by simp)
     ·rw [if_neg c7] at H
      exact absurd H (by simp)
    ·rw [if_neg c6] at H
     have c6b0 : decide (x18_1 < (l0.length : Int)) = false := decide_eq_false c6
     clear c6
     simp only [Option.some.injEq, Prod.mk.injEq] at H
     obtain ⟨rfl, rfl, rfl⟩ := H
     go_wp2
     go_ret3
     exact ⟨m_5, m_1⟩
 ·rw [if_neg c4] at H
  have c4b1 : (t721 != 0) = true := bne_iff_ne.mpr c4
  simp only [Option.some.injEq, Prod.mk.injEq] at H
  obtain ⟨rfl, rfl, rfl⟩ := H
  go_enter Try.func52, Try.ntmps52
  go_wp2_with (first | ((with_reducible refine gate_callee (f := 35) rfl ?_); refine goesL_ (some 12) rfl rfl Try.func35 m_13 rfl #[.slice A0 l0.length c0, .slice A1 l1.length c1] rfl m_2 ?_; (with_reducible refine (energy_Check.calls k _ _ l0 _ _ l1 t721 _ ?side1 ?side2 ?side3 ?side4 A3.out).mono ?_); (case side1 => exact cA_ HR0.out); (case side2 => exact HC0.out); (case side3 => exact cA_ HR1.out); (case side4 => exact HC1.out); rintro e w18 ⟨rfl, hb⟩; refine ⟨_, rfl, ?_⟩; replace HB := Aside0.mk (below_step m_1 hb); clear hb))
  go_ret3
  exact ⟨m_5, m_1⟩
theorem int64_z {x : Int} (h : sm x) : int64F (zS x) (zW x) = (x, true) := by
  unfold sm at h
  unfold int64F zW
  by_cases hx : x = 0
  · subst hx
    simp [numF, zS, u64Of, prs, wrap64]
  · rw [if_neg hx]
    by_cases h2 : x.natAbs < 4294967296
    · rw [if_pos h2, if_neg (by simp), if_pos (by simp)]
      have e : u64Of (prs [(x.natAbs : Int)] [] (max [(x.natAbs : Int)].length ([] : List Int).length)) = x.natAbs * 4294967296 := by
        simp [u64Of, prs, pairAt, u64_eq, List.range_succ]
        omega
      rw [e, Int.mul_ediv_cancel _ (by decide)]
      unfold numF zS
      by_cases hn : x < 0
      · rw [if_pos (decide_eq_true hn), if_pos (by omega), wrap64_id (x := (x.natAbs : Int)) (by omega) (by omega), wrap64_id (by omega) (by omega)]
        congr 1
        omega
      · rw [if_neg (by simpa using hn), wrap64_id (x := (x.natAbs : Int)) (by omega) (by omega), if_pos (by omega)]
        congr 1
        omega
    · rw [if_neg h2, if_neg (by simp), if_neg (by simp)]
      have e : u64Of (prs [(x.natAbs : Int) % 4294967296, (x.natAbs : Int) / 4294967296] [] (max [(x.natAbs : Int) % 4294967296, (x.natAbs : Int) / 4294967296].length ([] : List Int).length)) = x.natAbs := by
        simp [u64Of, prs, pairAt, u64_eq, List.range_succ]
        omega
      rw [e]
      unfold numF zS
      by_cases hn : x < 0
      · rw [if_pos (decide_eq_true hn), if_pos (by omega), wrap64_id (x := (x.natAbs : Int)) (by omega) (by omega), wrap64_id (by omega) (by omega)]
        congr 1
        omega
      · rw [if_neg (by simpa using hn), wrap64_id (x := (x.natAbs : Int)) (by omega) (by omega), if_pos (by omega)]
        congr 1
        omega
theorem part_f {l : List S99} {q : Int} (hc : curveF l = 0) (h0 : 0 ≤ q) (h1 : q ≤ qsum l) : Evs (fun k => energy_part.f k l q) (partF l q) := by
  obtain ⟨h3, h4, hx⟩ := curve_ok hc
  have hb := qsum_bound hx
  have hp := partF_bnd l q hx h0
  unfold energy_part.f
  rw [from_s (by unfold sm; omega)]
  simp only [Option.bind_some]
  refine (step_cost_f hc h0 h1).bind ?_
  have hs : sm (partF l q) := by unfold sm; omega
  have e : whole_Int64.f (zS (partF l q)) (zW (partF l q)) = some (partF l q, true) := by
    unfold whole_Int64.f
    have hcw := cW_z (partF l q) (sm_a hs)
    rw [if_pos (by have := cW_len hcw; omega), trimF_c hcw, int64_z hs]
  simp only [e, Option.bind_some]
  exact Evs.const rfl
def ckU (u : S24) : Int := checkF u.f0 u.f1 u.f2 u.f3 u.f4 u.f5 u.f6 u.f7 u.f8 6
def chk : List S24 → Int
  | [] => 0
  | u :: l => if ckU u = 0 then chk l else ckU u
def ckF (l0 : List S24) (l1 : List Bool) : Int := if 5 < l0.length then 5 else if chk l0 = 0 then (if l1.length = l0.length then 0 else 3) else chk l0
theorem rd24 (l : List S24) (k : Nat) (h : k < l.length) : rd_T24 l (k : Int) = l[k] := by simp [rd_T24, h]
theorem check_loop (l0 : List S24) (l1 : List Bool) (hl : l0.length ≤ 5) (d : Nat) : ∀ i : Nat, l0.length - i = d → i ≤ l0.length →
    Evs (fun k => energy_Check.l0 k l0 l1 l0 (l0.length : Int) (i : Int)) (if chk (l0.drop i) = 0 then (if l1.length = l0.length then 0 else 3) else chk (l0.drop i)) := by
  induction d with
  | zero =>
    intro i hd hi
    obtain rfl : i = l0.length := by omega
    refine Evs.succ (Evs.all fun k => ?_)
    simp only [energy_Check.l0]
    rw [if_neg (by omega)]
    simp only [List.drop_length, chk, if_true]
    by_cases e : l1.length = l0.length
    · rw [if_pos e, if_pos (by omega)]
    · rw [if_neg e, if_neg (by omega)]
  | succ d ih =>
    intro i hd hi
    have hlt : i < l0.length := by omega
    have e1 := rd24 l0 i hlt
    have hd2 : l0.drop i = l0[i] :: l0.drop (i + 1) := List.drop_eq_getElem_cons hlt
    generalize l0[i] = u at e1 hd2
    have h := ih (i + 1) (by omega) (by omega)
    refine Evs.succ ?_
    simp only [energy_Check.l0, if_pos (show (i : Int) < (l0.length : Int) by omega), if_pos (show (0 : Int) ≤ (i : Int) by omega), e1]
    refine (check_f u.f0 u.f1 u.f2 u.f3 u.f4 u.f5 u.f6 u.f7 u.f8 6).bind ?_
    rw [hd2, chk]
    by_cases hu : ckU u = 0
    · simp only [if_pos hu, if_pos (show checkF u.f0 u.f1 u.f2 u.f3 u.f4 u.f5 u.f6 u.f7 u.f8 6 = 0 from hu), wrap_id (show -9223372036854775808 ≤ (i : Int) + 1 by omega) (show (i : Int) + 1 ≤ 9223372036854775807 by omega), show (i : Int) + 1 = ((i + 1 : Nat) : Int) by omega]
      rw [show (wrap64 ((i + 1 : Nat) : Int)) = ((i + 1 : Nat) : Int) from wrap_id (by omega) (by omega)]
      exact h
    · simp only [if_neg hu, if_neg (show ¬ checkF u.f0 u.f1 u.f2 u.f3 u.f4 u.f5 u.f6 u.f7 u.f8 6 = 0 from hu)]
      exact Evs.const rfl
theorem Check_f (l0 : List S24) (l1 : List Bool) : Evs (fun k => energy_Check.f k l0 l1) (ckF l0 l1) := by
  unfold energy_Check.f ckF
  by_cases h : 5 < l0.length
  · simp only [if_pos h, if_pos (show (l0.length : Int) > 5 by omega)]
    exact Evs.const rfl
  · simp only [if_neg h, if_neg (show ¬ (l0.length : Int) > 5 by omega)]
    have := check_loop l0 l1 (by omega) l0.length 0 (by omega) (by omega)
    rw [List.drop_zero] at this
    exact this
structure OkU (u : S24) : Prop where
  up : wrongF true u.f2 = 0
  min0 : 0 ≤ u.f1
  min1 : u.f1 ≤ qsum u.f2
def leastF : List S24 → List Bool → Int
  | u :: us, b :: bs => (if b then u.f1 else 0) + leastF us bs
  | _, _ => 0
def mostF : List S24 → List Bool → Int
  | u :: us, b :: bs => (if b then qsum u.f2 else 0) + mostF us bs
  | _, _ => 0
theorem okU_bnd {u : S24} (h : OkU u) : curveF u.f2 = 0 ∧ u.f2.length ≤ 3 ∧ okL u.f2 ∧ 0 ≤ qsum u.f2 ∧ qsum u.f2 ≤ 3000000 ∧ maxF u.f2 = qsum u.f2 := by
  have hw := wrongF_ok h.up
  have hb := qsum_bound hw.2.2
  refine ⟨?_, hw.1, hw.2.2, hb.1, by omega, by unfold maxF; rw [if_pos h.up]⟩
  unfold curveF
  by_cases e : wrongF false u.f2 = 0
  · rw [if_pos e]
  · rw [if_neg e]; exact h.up
theorem lm_bnd : ∀ (l0 : List S24) (l1 : List Bool), (∀ u ∈ l0, OkU u) → 0 ≤ leastF l0 l1 ∧ leastF l0 l1 ≤ mostF l0 l1 ∧ mostF l0 l1 ≤ 3000000 * (l0.length : Int)
  | [], _, _ => by simp [leastF, mostF]
  | _ :: _, [], _ => by simp [leastF, mostF]; omega
  | u :: us, b :: bs, h => by
    have hu := h u List.mem_cons_self
    have hb := okU_bnd hu
    have ih := lm_bnd us bs (fun x hx => h x (List.mem_cons_of_mem _ hx))
    have h1 := hu.min0
    have h2 := hu.min1
    rw [leastF, mostF, List.length_cons]
    cases b
    · simp; omega
    · simp; omega
theorem range_loop (l0 : List S24) (l1 : List Bool) (hl : l0.length ≤ 5) (h1 : l1.length = l0.length) (ho : ∀ u ∈ l0, OkU u) (d : Nat) : ∀ (i : Nat) (a b : Int), l0.length - i = d → i ≤ l0.length → 0 ≤ a → a ≤ 3000000 * (i : Int) → 0 ≤ b → b ≤ 3000000 * (i : Int) →
    Evs (fun k => energy_Range.l0 k l1 a b l0 (l0.length : Int) (i : Int)) (a + leastF (l0.drop i) (l1.drop i), b + mostF (l0.drop i) (l1.drop i), 0) := by
  induction d with
  | zero =>
    intro i a b hd hi _ _ _ _
    obtain rfl : i = l0.length := by omega
    refine Evs.succ (Evs.all fun k => ?_)
    simp only [energy_Range.l0]
    rw [if_neg (by omega)]
    simp [leastF, mostF]
  | succ d ih =>
    intro i a b hd hi ha0 ha1 hb0 hb1
    have hlt : i < l0.length := by omega
    have e1 := rd24 l0 i hlt
    have hd2 : l0.drop i = l0[i] :: l0.drop (i + 1) := List.drop_eq_getElem_cons hlt
    have hu := ho l0[i] (List.getElem_mem hlt)
    generalize l0[i] = u at e1 hd2 hu
    have hlt1 : i < l1.length := by omega
    have hd3 : l1.drop i = l1[i] :: l1.drop (i + 1) := List.drop_eq_getElem_cons hlt1
    have e2 : rdOf false l1 (i : Int) = l1[i] := by simp [rdOf, hlt1]
    generalize l1[i] = c at e2 hd3
    have hub := okU_bnd hu
    have hm0 := hu.min0
    have hm1 := hu.min1
    rw [hd2, hd3, leastF, mostF]
    refine Evs.succ ?_
    simp only [energy_Range.l0, if_pos (show (i : Int) < (l0.length : Int) by omega), if_pos (show (0 : Int) ≤ (i : Int) by omega), if_pos (show (i : Int) < (l1.length : Int) by omega), e1, e2, wrap_id (show -9223372036854775808 ≤ (i : Int) + 1 by omega) (show (i : Int) + 1 ≤ 9223372036854775807 by omega)]
    cases c with
    | false =>
      have h := ih (i + 1) a b (by omega) (by omega) ha0 (by omega) hb0 (by omega)
      simp only [if_neg (show ¬ (false = true) by decide)]
      rw [Int.zero_add, Int.zero_add]
      exact h
    | true =>
      have h := ih (i + 1) (a + u.f1) (b + qsum u.f2) (by omega) (by omega) (by omega) (by omega) (by omega) (by omega)
      simp only [if_true]
      refine (max_f u.f0 u.f1 u.f2 u.f3 u.f4 u.f5 u.f6 u.f7 u.f8).bind ?_
      rw [hub.2.2.2.2.2, wrap_id (by omega) (by omega), wrap_id (by omega) (by omega), ← Int.add_assoc, ← Int.add_assoc]
      exact h
end Go.Proofs.Ytelklgdmhnkenaa.U
namespace Go.Proofs.Ytelklgdmhnkenaa.U
attribute [local go_sem] max2_int min2_int max_two min_two max_three min_three max_four min_four
def cmp_Or_int.l0 : Nat → Int → List Int → Int → Int → Option (Int)
 | 0, _, _, _, _ => none
 | k + 1, x3, x6, x7, x8 => if x8 < x7 then (if 0 ≤ x8 then (if x8 < (x6.length : Int) then (if (rd x6 x8) = x3 then (cmp_Or_int.l0 k x3 x6 x7 (wrap64 (x8 + 1))) else (some (rd x6 x8))) else (none)) else (none)) else (some x3)
def cmp_Or_int.f (k : Nat) (l0 : List Int) : Option (Int) := cmp_Or_int.l0 k 0 l0 (l0.length : Int) 0
set_option maxHeartbeats 8000000 in
set_option maxRecDepth 100000 in
theorem cmp_Or_int.calls (k : Nat) (A0 : Option Addr) (c0 : Nat) (l0 : List Int) (r : Int) (w : World) (hr0 : Kd.C (Kd.int .i64) w A0 l0.length l0) (hc0 : l0.length ≤ c0) (h : cmp_Or_int.f k l0 = some r) :
  Calls Try.prog 71 #[.slice A0 l0.length c0] w fun e w' => e = .returned (.int .i64 r) ∧ Drawn0 w w' := by
 have HR0 := Aside0.mk hr0
 clear hr0 hc0
 have H : (cmp_Or_int.l0 k 0 l0 (l0.length : Int) 0) = some r := h
 clear h
 have H' := Aside0.mk H
 clear H
 go_enter Try.func71, Try.ntmps71
 go_wp2
 go_loopg [8] k (fun kq v8 w' => ∃ (x8_1 : Int), v8 = .int .i64 x8_1 ∧ Aside0 (cmp_Or_int.l0 kq 0 l0 (l0.length : Int) x8_1 = some r) ∧ Aside0 (kq ≤ k) ∧ Drawn0 w w')
 case atStart => exact ⟨(0), m_9, H', ⟨Nat.le_refl _⟩, m_28⟩
 case round =>
  clear H'
  obtain ⟨x8_1, rfl, HA, HK1, ⟨m1, rfl⟩⟩ := hrel
  cases gk with
  | zero => exact absurd HA.out (by simp [cmp_Or_int.l0])
  | succ k1 =>
   have H := HA.out
   clear HA
   simp only [cmp_Or_int.l0] at H
   by_cases c2 : x8_1 < (l0.length : Int)
   ·rw [if_pos c2] at H
    clear c2
    by_cases c3 : 0 ≤ x8_1
    ·rw [if_pos c3] at H
     have c3b0 : decide (0 ≤ x8_1) = true := decide_eq_true c3
     clear c3
     by_cases c4 : x8_1 < (l0.length : Int)
     ·rw [if_pos c4] at H
      have c4b0 : decide (x8_1 < (l0.length : Int)) = true := decide_eq_true c4
      clear c4
      by_cases c5 : (rd l0 x8_1) = 0
      ·rw [if_pos c5] at H
       have c5b1 : ((rd l0 x8_1) != 0) = false := bne_eq_false_iff_eq.mpr c5
       clear c5
       have H' := Aside0.mk H
       clear H
       have p101 : 0 ≤ (x8_1 : Int) := of_decide_eq_true m_4
       have q101 : x8_1 < (l0.length : Int) := of_decide_eq_true m_4
       obtain ⟨ad101, e101, hx101_0⟩ := Kd.at_int HR0.out x8_1 p101 q101
       cases e101
       replace p101 := eq_true p101
       replace q101 := eq_true q101
       go_wp2
       go_roundg k1
       case measure => have := HK1.out; omega
       case rel => exact ⟨(wrap64 (x8_1 + 1)), m_9, H', ⟨m_119⟩, m_28⟩
      ·rw [if_neg c5] at H
       have c5b1 : ((rd l0 x8_1) != 0) = true := bne_iff_ne.mpr c5
       obtain rfl := Option.some.inj H
       have p101 : 0 ≤ (x8_1 : Int) := of_decide_eq_true m_4
       have q101 : x8_1 < (l0.length : Int) := of_decide_eq_true m_4
       obtain ⟨ad101, e101, hx101_0⟩ := Kd.at_int HR0.out x8_1 p101 q101
       cases e101
       replace p101 := eq_true p101
       replace q101 := eq_true q101
       go_wp2
       go_ret
       exact ⟨m_9, m_28⟩
     ·rw [if_neg c4] at H
      exact absurd H (by simp)
    ·rw [if_neg c3] at H
     exact absurd H (by simp)
   ·rw [if_neg c2] at H
    have c2b0 : decide (x8_1 < (l0.length : Int)) = false := decide_eq_false c2
    clear c2
    obtain rfl := Option.some.inj H
    go_wp2
    go_ret
    exact ⟨m_9, m_28⟩
end Go.Proofs.Ytelklgdmhnkenaa.U
namespace Go.Proofs.Ytelklgdmhnkenaa.U
attribute [local go_sem] max2_int min2_int max_two min_two max_three min_three max_four min_four
def cmp_isNaN_int64.f (a0 : Int) : Option (Bool) := some (a0 != a0)
set_option maxHeartbeats 8000000 in
set_option maxRecDepth 100000 in
theorem cmp_isNaN_int64.calls (a0 : Int) (r : Bool) (w : World) (h : cmp_isNaN_int64.f a0 = some r) :
  Calls Try.prog 92 #[.int .i64 a0] w fun e w' => e = .returned (.bool r) ∧ Drawn0 w w' := by
 have H : (some (a0 != a0)) = some r := h
 clear h
 obtain rfl := Option.some.inj H
 go_enter Try.func92, Try.ntmps92
 go_wp2
 go_ret
 exact ⟨m_9, m_28⟩
end Go.Proofs.Ytelklgdmhnkenaa.U
namespace Go.Proofs.Ytelklgdmhnkenaa.U
attribute [local go_sem] max2_int min2_int max_two min_two max_three min_three max_four min_four
def cmp_Compare_int64.f (a0 : Int) (a1 : Int) : Option (Int) := (cmp_isNaN_int64.f a0).bind fun t102 => ((cmp_isNaN_int64.f a1).bind fun t103 => (if t102 = true then (if t103 = true then (some 0) else (some (-1))) else (if t103 = true then (some 1) else (if a0 < a1 then (some (-1)) else (if a0 > a1 then (some 1) else (some 0))))))
set_option maxHeartbeats 8000000 in
set_option maxRecDepth 100000 in
theorem cmp_Compare_int64.calls (a0 : Int) (a1 : Int) (r : Int) (w : World) (h : cmp_Compare_int64.f a0 a1 = some r) :
  Calls Try.prog 72 #[.int .i64 a0, .int .i64 a1] w fun e w' => e = .returned (.int .i64 r) ∧ Drawn0 w w' := by
 have H : ((cmp_isNaN_int64.f a0).bind fun t102 => ((cmp_isNaN_int64.f a1).bind fun t103 => (if t102 = true then (if t103 = true then (some 0) else (some (-1))) else (if t103 = true then (some 1) else (if a0 < a1 then (some (-1)) else (if a0 > a1 then (some 1) else (some 0))))))) = some r := h
 clear h
 replace H := Option.bind_eq_some_iff.mp H
 obtain ⟨t102, A30, H⟩ := H
 replace H : ((cmp_isNaN_int64.f a1).bind fun t103 => (if t102 = true then (if t103 = true then (some 0) else (some (-1))) else (if t103 = true then (some 1) else (if a0 < a1 then (some (-1)) else (if a0 > a1 then (some 1) else (some 0)))))) = some r := H
 have A3 := Aside0.mk A30
 clear A30
 replace H := Option.bind_eq_some_iff.mp H
 obtain ⟨t103, A40, H⟩ := H
 replace H : (if t102 = true then (if t103 = true then (some 0) else (some (-1))) else (if t103 = true then (some 1) else (if a0 < a1 then (some (-1)) else (if a0 > a1 then (some 1) else (some 0))))) = some r := H
 have A4 := Aside0.mk A40
 clear A40
 by_cases c5 : t102 = true
 ·subst c5
  have H1 : (if t103 = true then (some 0) else (some (-1))) = some r := by rw [if_pos rfl] at H; exact H
  clear H
  have H := H1
  clear H1
  by_cases c6 : t103 = true
  ·subst c6
   have H1 : (some 0) = some r := by rw [if_pos rfl] at H; exact H
   clear H
   have H := H1
   clear H1
   obtain rfl := Option.some.inj H
   go_enter Try.func72, Try.ntmps72
   go_wp2_with (first | ((with_reducible refine gate_callee (f := 92) rfl ?_); refine goesL_ (some 8) rfl rfl Try.func92 m_13 rfl #[.int .i64 a0] rfl m_2 ?_; (with_reducible refine (cmp_isNaN_int64.calls a0 true _ A3.out).mono ?_); rintro e w' ⟨rfl, ⟨nd, rfl⟩⟩; refine ⟨_, rfl, ?_⟩) | ((with_reducible refine gate_callee (f := 92) rfl ?_); refine goesL_ (some 10) rfl rfl Try.func92 m_13 rfl #[.int .i64 a1] rfl m_2 ?_; (with_reducible refine (cmp_isNaN_int64.calls a1 true _ A4.out).mono ?_); rintro e w' ⟨rfl, ⟨nd, rfl⟩⟩; refine ⟨_, rfl, ?_⟩))
   go_ret
   exact ⟨m_9, m_28⟩
  ·replace c6 := Bool.eq_false_iff.mpr c6
   subst c6
   have H1 : (some (-1)) = some r := by rw [if_neg (show ¬ (false = true) by decide)] at H; exact H
   clear H
   have H := H1
   clear H1
   obtain rfl := Option.some.inj H
   go_enter Try.func72, Try.ntmps72
   go_wp2_with (first | ((with_reducible refine gate_callee (f := 92) rfl ?_); refine goesL_ (some 8) rfl rfl Try.func92 m_13 rfl #[.int .i64 a0] rfl m_2 ?_; (with_reducible refine (cmp_isNaN_int64.calls a0 true _ A3.out).mono ?_); rintro e w' ⟨rfl, ⟨nd, rfl⟩⟩; refine ⟨_, rfl, ?_⟩) | ((with_reducible refine gate_callee (f := 92) rfl ?_); refine goesL_ (some 10) rfl rfl Try.func92 m_13 rfl #[.int .i64 a1] rfl m_2 ?_; (with_reducible refine (cmp_isNaN_int64.calls a1 false _ A4.out).mono ?_); rintro e w' ⟨rfl, ⟨nd, rfl⟩⟩; refine ⟨_, rfl, ?_⟩))
   go_ret
   exact ⟨m_9, m_28⟩
 ·replace c5 := Bool.eq_false_iff.mpr c5
  subst c5
  have H1 : (if t103 = true then (some 1) else (if a0 < a1 then (some (-1)) else (if a0 > a1 then (some 1) else (some 0)))) = some r := by rw [if_neg (show ¬ (false = true) by decide)] at H; exact H
  clear H
  have H := H1
  clear H1
  by_cases c7 : t103 = true
  ·subst c7
   have H1 : (some 1) = some r := by rw [if_pos rfl] at H; exact H
   clear H
   have H := H1
   clear H1
   obtain rfl := Option.some.inj H
   go_enter Try.func72, Try.ntmps72
   go_wp2_with (first | ((with_reducible refine gate_callee (f := 92) rfl ?_); refine goesL_ (some 8) rfl rfl Try.func92 m_13 rfl #[.int .i64 a0] rfl m_2 ?_; (with_reducible refine (cmp_isNaN_int64.calls a0 false _ A3.out).mono ?_); rintro e w' ⟨rfl, ⟨nd, rfl⟩⟩; refine ⟨_, rfl, ?_⟩) | ((with_reducible refine gate_callee (f := 92) rfl ?_); refine goesL_ (some 10) rfl rfl Try.func92 m_13 rfl #[.int .i64 a1] rfl m_2 ?_; (with_reducible refine (cmp_isNaN_int64.calls a1 true _ A4.out).mono ?_); rintro e w' ⟨rfl, ⟨nd, rfl⟩⟩; refine ⟨_, rfl, ?_⟩))
   go_ret
   exact ⟨m_9, m_28⟩
  ·replace c7 := Bool.eq_false_iff.mpr c7
   subst c7
   have H1 : (if a0 < a1 then (some (-1)) else (if a0 > a1 then (some 1) else (some 0))) = some r := by rw [if_neg (show ¬ (false = true) by decide)] at H; exact H
   clear H
   have H := H1
   clear H1
   by_cases c8 : a0 < a1
   ·rw [if_pos c8] at H
    have c8b0 : decide (a0 < a1) = true := decide_eq_true c8
    clear c8
    obtain rfl := Option.some.inj H
    go_enter Try.func72, Try.ntmps72
    go_wp2_with (first | ((with_reducible refine gate_callee (f := 92) rfl ?_); refine goesL_ (some 8) rfl rfl Try.func92 m_13 rfl #[.int .i64 a0] rfl m_2 ?_; (with_reducible refine (cmp_isNaN_int64.calls a0 false _ A3.out).mono ?_); rintro e w' ⟨rfl, ⟨nd, rfl⟩⟩; refine ⟨_, rfl, ?_⟩) | ((with_reducible refine gate_callee (f := 92) rfl ?_); refine goesL_ (some 10) rfl rfl Try.func92 m_13 rfl #[.int .i64 a1] rfl m_2 ?_; (with_reducible refine (cmp_isNaN_int64.calls a1 false _ A4.out).mono ?_); rintro e w' ⟨rfl, ⟨nd, rfl⟩⟩; refine ⟨_, rfl, ?_⟩))
    go_ret
    exact ⟨m_9, m_28⟩
   ·rw [if_neg c8] at H
    have c8b0 : decide (a0 < a1) = false := decide_eq_false c8
    clear c8
    by_cases c9 : a0 > a1
    ·rw [if_pos c9] at H
     have c9b0 : decide (a1 < a0) = true := decide_eq_true c9
     clear c9
     obtain rfl := Option.some.inj H
     go_enter Try.func72, Try.ntmps72
     go_wp2_with (first | ((with_reducible refine gate_callee (f := 92) rfl ?_); refine goesL_ (some 8) rfl rfl Try.func92 m_13 rfl #[.int .i64 a0] rfl m_2 ?_; (with_reducible refine (cmp_isNaN_int64.calls a0 false _ A3.out).mono ?_); rintro e w' ⟨rfl, ⟨nd, rfl⟩⟩; refine ⟨_, rfl, ?_⟩) | ((with_reducible refine gate_callee (f := 92) rfl ?_); refine goesL_ (some 10) rfl rfl Try.func92 m_13 rfl #[.int .i64 a1] rfl m_2 ?_; (with_reducible refine (cmp_isNaN_int64.calls a1 false _ A4.out).mono ?_); rintro e w' ⟨rfl, ⟨nd, rfl⟩⟩; refine ⟨_, rfl, ?_⟩))
     go_ret
     exact ⟨m_9, m_28⟩
    ·rw [if_neg c9] at H
     have c9b0 : decide (a1 < a0) = false := decide_eq_false c9
     clear c9
     obtain rfl := Option.some.inj H
     go_enter Try.func72, Try.ntmps72
     go_wp2_with (first | ((with_reducible refine gate_callee (f := 92) rfl ?_); refine goesL_ (some 8) rfl rfl Try.func92 m_13 rfl #[.int .i64 a0] rfl m_2 ?_; (with_reducible refine (cmp_isNaN_int64.calls a0 false _ A3.out).mono ?_); rintro e w' ⟨rfl, ⟨nd, rfl⟩⟩; refine ⟨_, rfl, ?_⟩) | ((with_reducible refine gate_callee (f := 92) rfl ?_); refine goesL_ (some 10) rfl rfl Try.func92 m_13 rfl #[.int .i64 a1] rfl m_2 ?_; (with_reducible refine (cmp_isNaN_int64.calls a1 false _ A4.out).mono ?_); rintro e w' ⟨rfl, ⟨nd, rfl⟩⟩; refine ⟨_, rfl, ?_⟩))
     go_ret
     exact ⟨m_9, m_28⟩
end Go.Proofs.Ytelklgdmhnkenaa.U
namespace Go.Proofs.Ytelklgdmhnkenaa.U
attribute [local go_sem] max2_int min2_int max_two min_two max_three min_three max_four min_four
def cmp_isNaN_int.f (a0 : Int) : Option (Bool) := some (a0 != a0)
set_option maxHeartbeats 8000000 in
set_option maxRecDepth 100000 in
theorem cmp_isNaN_int.calls (a0 : Int) (r : Bool) (w : World) (h : cmp_isNaN_int.f a0 = some r) :
  Calls Try.prog 93 #[.int .i64 a0] w fun e w' => e = .returned (.bool r) ∧ Drawn0 w w' := by
 have H : (some (a0 != a0)) = some r := h
 clear h
 obtain rfl := Option.some.inj H
 go_enter Try.func93, Try.ntmps93
 go_wp2
 go_ret
 exact ⟨m_9, m_28⟩
end Go.Proofs.Ytelklgdmhnkenaa.U
namespace Go.Proofs.Ytelklgdmhnkenaa.U
attribute [local go_sem] max2_int min2_int max_two min_two max_three min_three max_four min_four
def cmp_Compare_int.f (a0 : Int) (a1 : Int) : Option (Int) := (cmp_isNaN_int.f a0).bind fun t104 => ((cmp_isNaN_int.f a1).bind fun t105 => (if t104 = true then (if t105 = true then (some 0) else (some (-1))) else (if t105 = true then (some 1) else (if a0 < a1 then (some (-1)) else (if a0 > a1 then (some 1) else (some 0))))))
set_option maxHeartbeats 8000000 in
set_option maxRecDepth 100000 in
theorem cmp_Compare_int.calls (a0 : Int) (a1 : Int) (r : Int) (w : World) (h : cmp_Compare_int.f a0 a1 = some r) :
  Calls Try.prog 73 #[.int .i64 a0, .int .i64 a1] w fun e w' => e = .returned (.int .i64 r) ∧ Drawn0 w w' := by
 have H : ((cmp_isNaN_int.f a0).bind fun t104 => ((cmp_isNaN_int.f a1).bind fun t105 => (if t104 = true then (if t105 = true then (some 0) else (some (-1))) else (if t105 = true then (some 1) else (if a0 < a1 then (some (-1)) else (if a0 > a1 then (some 1) else (some 0))))))) = some r := h
 clear h
 replace H := Option.bind_eq_some_iff.mp H
 obtain ⟨t104, A30, H⟩ := H
 replace H : ((cmp_isNaN_int.f a1).bind fun t105 => (if t104 = true then (if t105 = true then (some 0) else (some (-1))) else (if t105 = true then (some 1) else (if a0 < a1 then (some (-1)) else (if a0 > a1 then (some 1) else (some 0)))))) = some r := H
 have A3 := Aside0.mk A30
 clear A30
 replace H := Option.bind_eq_some_iff.mp H
 obtain ⟨t105, A40, H⟩ := H
 replace H : (if t104 = true then (if t105 = true then (some 0) else (some (-1))) else (if t105 = true then (some 1) else (if a0 < a1 then (some (-1)) else (if a0 > a1 then (some 1) else (some 0))))) = some r := H
 have A4 := Aside0.mk A40
 clear A40
 by_cases c5 : t104 = true
 ·subst c5
  have H1 : (if t105 = true then (some 0) else (some (-1))) = some r := by rw [if_pos rfl] at H; exact H
  clear H
  have H := H1
  clear H1
  by_cases c6 : t105 = true
  ·subst c6
   have H1 : (some 0) = some r := by rw [if_pos rfl] at H; exact H
   clear H
   have H := H1
   clear H1
   obtain rfl := Option.some.inj H
   go_enter Try.func73, Try.ntmps73
   go_wp2_with (first | ((with_reducible refine gate_callee (f := 93) rfl ?_); refine goesL_ (some 8) rfl rfl Try.func93 m_13 rfl #[.int .i64 a0] rfl m_2 ?_; (with_reducible refine (cmp_isNaN_int.calls a0 true _ A3.out).mono ?_); rintro e w' ⟨rfl, ⟨nd, rfl⟩⟩; refine ⟨_, rfl, ?_⟩) | ((with_reducible refine gate_callee (f := 93) rfl ?_); refine goesL_ (some 10) rfl rfl Try.func93 m_13 rfl #[.int .i64 a1] rfl m_2 ?_; (with_reducible refine (cmp_isNaN_int.calls a1 true _ A4.out).mono ?_); rintro e w' ⟨rfl, ⟨nd, rfl⟩⟩; refine ⟨_, rfl, ?_⟩))
   go_ret
   exact ⟨m_9, m_28⟩
  ·replace c6 := Bool.eq_false_iff.mpr c6
   subst c6
   have H1 : (some (-1)) = some r := by rw [if_neg (show ¬ (false = true) by decide)] at H; exact H
   clear H
   have H := H1
   clear H1
   obtain rfl := Option.some.inj H
   go_enter Try.func73, Try.ntmps73
   go_wp2_with (first | ((with_reducible refine gate_callee (f := 93) rfl ?_); refine goesL_ (some 8) rfl rfl Try.func93 m_13 rfl #[.int .i64 a0] rfl m_2 ?_; (with_reducible refine (cmp_isNaN_int.calls a0 true _ A3.out).mono ?_); rintro e w' ⟨rfl, ⟨nd, rfl⟩⟩; refine ⟨_, rfl, ?_⟩) | ((with_reducible refine gate_callee (f := 93) rfl ?_); refine goesL_ (some 10) rfl rfl Try.func93 m_13 rfl #[.int .i64 a1] rfl m_2 ?_; (with_reducible refine (cmp_isNaN_int.calls a1 false _ A4.out).mono ?_); rintro e w' ⟨rfl, ⟨nd, rfl⟩⟩; refine ⟨_, rfl, ?_⟩))
   go_ret
   exact ⟨m_9, m_28⟩
 ·replace c5 := Bool.eq_false_iff.mpr c5
  subst c5
  have H1 : (if t105 = true then (some 1) else (if a0 < a1 then (some (-1)) else (if a0 > a1 then (some 1) else (some 0)))) = some r := by rw [if_neg (show ¬ (false = true) by decide)] at H; exact H
  clear H
  have H := H1
  clear H1
  by_cases c7 : t105 = true
  ·subst c7
   have H1 : (some 1) = some r := by rw [if_pos rfl] at H; exact H
   clear H
   have H := H1
   clear H1
   obtain rfl := Option.some.inj H
   go_enter Try.func73, Try.ntmps73
   go_wp2_with (first | ((with_reducible refine gate_callee (f := 93) rfl ?_); refine goesL_ (some 8) rfl rfl Try.func93 m_13 rfl #[.int .i64 a0] rfl m_2 ?_; (with_reducible refine (cmp_isNaN_int.calls a0 false _ A3.out).mono ?_); rintro e w' ⟨rfl, ⟨nd, rfl⟩⟩; refine ⟨_, rfl, ?_⟩) | ((with_reducible refine gate_callee (f := 93) rfl ?_); refine goesL_ (some 10) rfl rfl Try.func93 m_13 rfl #[.int .i64 a1] rfl m_2 ?_; (with_reducible refine (cmp_isNaN_int.calls a1 true _ A4.out).mono ?_); rintro e w' ⟨rfl, ⟨nd, rfl⟩⟩; refine ⟨_, rfl, ?_⟩))
   go_ret
   exact ⟨m_9, m_28⟩
  ·replace c7 := Bool.eq_false_iff.mpr c7
   subst c7
   have H1 : (if a0 < a1 then (some (-1)) else (if a0 > a1 then (some 1) else (some 0))) = some r := by rw [if_neg (show ¬ (false = true) by decide)] at H; exact H
   clear H
   have H := H1
   clear H1
   by_cases c8 : a0 < a1
   ·rw [if_pos c8] at H
    have c8b0 : decide (a0 < a1) = true := decide_eq_true c8
    clear c8
    obtain rfl := Option.some.inj H
    go_enter Try.func73, Try.ntmps73
    go_wp2_with (first | ((with_reducible refine gate_callee (f := 93) rfl ?_); refine goesL_ (some 8) rfl rfl Try.func93 m_13 rfl #[.int .i64 a0] rfl m_2 ?_; (with_reducible refine (cmp_isNaN_int.calls a0 false _ A3.out).mono ?_); rintro e w' ⟨rfl, ⟨nd, rfl⟩⟩; refine ⟨_, rfl, ?_⟩) | ((with_reducible refine gate_callee (f := 93) rfl ?_); refine goesL_ (some 10) rfl rfl Try.func93 m_13 rfl #[.int .i64 a1] rfl m_2 ?_; (with_reducible refine (cmp_isNaN_int.calls a1 false _ A4.out).mono ?_); rintro e w' ⟨rfl, ⟨nd, rfl⟩⟩; refine ⟨_, rfl, ?_⟩))
    go_ret
    exact ⟨m_9, m_28⟩
   ·rw [if_neg c8] at H
    have c8b0 : decide (a0 < a1) = false := decide_eq_false c8
    clear c8
    by_cases c9 : a0 > a1
    ·rw [if_pos c9] at H
     have c9b0 : decide (a1 < a0) = true := decide_eq_true c9
     clear c9
     obtain rfl := Option.some.inj H
     go_enter Try.func73, Try.ntmps73
     go_wp2_with (first | ((with_reducible refine gate_callee (f := 93) rfl ?_); refine goesL_ (some 8) rfl rfl Try.func93 m_13 rfl #[.int .i64 a0] rfl m_2 ?_; (with_reducible refine (cmp_isNaN_int.calls a0 false _ A3.out).mono ?_); rintro e w' ⟨rfl, ⟨nd, rfl⟩⟩; refine ⟨_, rfl, ?_⟩) | ((with_reducible refine gate_callee (f := 93) rfl ?_); refine goesL_ (some 10) rfl rfl Try.func93 m_13 rfl #[.int .i64 a1] rfl m_2 ?_; (with_reducible refine (cmp_isNaN_int.calls a1 false _ A4.out).mono ?_); rintro e w' ⟨rfl, ⟨nd, rfl⟩⟩; refine ⟨_, rfl, ?_⟩))
     go_ret
     exact ⟨m_9, m_28⟩
    ·rw [if_neg c9] at H
     have c9b0 : decide (a1 < a0) = false := decide_eq_false c9
     clear c9
     obtain rfl := Option.some.inj H
     go_enter Try.func73, Try.ntmps73
     go_wp2_with (first | ((with_reducible refine gate_callee (f := 93) rfl ?_); refine goesL_ (some 8) rfl rfl Try.func93 m_13 rfl #[.int .i64 a0] rfl m_2 ?_; (with_reducible refine (cmp_isNaN_int.calls a0 false _ A3.out).mono ?_); rintro e w' ⟨rfl, ⟨nd, rfl⟩⟩; refine ⟨_, rfl, ?_⟩) | ((with_reducible refine gate_callee (f := 93) rfl ?_); refine goesL_ (some 10) rfl rfl Try.func93 m_13 rfl #[.int .i64 a1] rfl m_2 ?_; (with_reducible refine (cmp_isNaN_int.calls a1 false _ A4.out).mono ?_); rintro e w' ⟨rfl, ⟨nd, rfl⟩⟩; refine ⟨_, rfl, ?_⟩))
     go_ret
     exact ⟨m_9, m_28⟩
end Go.Proofs.Ytelklgdmhnkenaa.U
namespace Go.Proofs.Ytelklgdmhnkenaa.U
open Go.Proofs Go.Shelf Go.RowKit Go.Lib Go.Sort
def sortPc_ren : Go.Shelf.Ren := ⟨fun | 6 => 69 | 15 => 91 | 14 => 90 | 28 => 117 | 29 => 118 | 20 => 109 | 21 => 110 | 22 => 111 | 23 => 112 | 24 => 113 | 25 => 114 | 26 => 115 | 27 => 116 | 46 => 127 | 47 => 128 | 48 => 129 | 49 => 130 | 50 => 131 | 57 => 135 | n => n, fun | 22 => 89 | 24 => 84 | 25 => 108 | 3 => 3 | 39 => 118 | 0 => 0 | 53 => 117 | 55 => 115 | 4 => 4 | 46 => 146 | 45 => 145 | 50 => 36 | 5 => 5 | 9 => 9 | 66 => 156 | 70 => 160 | 76 => 168 | 77 => 169 | n => n, fun | n => n⟩
theorem sortPc : Go.Proofs.SlLaysF0.n6 Try.prog sortPc_ren := {
 mixed := by kernel_rfl
 f6 := ⟨Try.f69.name, (by decide), Try.func69.trans (congrArg some m_13)⟩
 f14 := ⟨Try.f90.name, (by decide), Try.func90.trans (congrArg some m_13)⟩
 f15 := Try.func91.trans (congrArg some m_13)
 f20 := ⟨Try.f109.name, (by decide), Try.func109.trans (congrArg some m_13)⟩
 f21 := ⟨Try.f110.name, (by decide), Try.func110.trans (congrArg some m_13)⟩
 f22 := ⟨Try.f111.name, (by decide), Try.func111.trans (congrArg some m_13)⟩
 f23 := ⟨Try.f112.name, (by decide), Try.func112.trans (congrArg some m_13)⟩
 f24 := ⟨Try.f113.name, (by decide), Try.func113.trans (congrArg some m_13)⟩
 f25 := ⟨Try.f114.name, (by decide), Try.func114.trans (congrArg some m_13)⟩
 f26 := ⟨Try.f115.name, (by decide), Try.func115.trans (congrArg some m_13)⟩
 f27 := ⟨Try.f116.name, (by decide), Try.func116.trans (congrArg some m_13)⟩
 f28 := Try.func117.trans (congrArg some m_13)
 f29 := Try.func118.trans (congrArg some m_13)
 f46 := ⟨Try.f127.name, (by decide), Try.func127.trans (congrArg some m_13)⟩
 f47 := Try.func128.trans (congrArg some m_13)
 f48 := Try.func129.trans (congrArg some m_13)
 f49 := ⟨Try.f130.name, (by decide), Try.func130.trans (congrArg some m_13)⟩
 f50 := ⟨Try.f131.name, (by decide), Try.func131.trans (congrArg some m_13)⟩
 f57 := ⟨Try.f135.name, (by decide), Try.func135.trans (congrArg some m_13)⟩
 t0 := Try.underlying0
 a0 := Try.isAgg0
 z0 := Try.sizeOf0
 v0 := Try.zeroValue0
 t3 := Try.underlying3
 a3 := Try.isAgg3
 z3 := Try.sizeOf3
 v3 := Try.zeroValue3
 t4 := Try.underlying4
 a4 := Try.isAgg4
 z4 := Try.sizeOf4
 v4 := Try.zeroValue4
 t5 := Try.underlying5
 a5 := Try.isAgg5
 z5 := Try.sizeOf5
 v5 := Try.zeroValue5
 t9 := Try.underlying9
 a9 := Try.isAgg9
 z9 := Try.sizeOf9
 v9 := Try.zeroValue9
 t22 := Try.underlying89
 a22 := Try.isAgg89
 z22 := Try.sizeOf89
 v22 := Try.zeroValue89
 t25 := Try.underlying108
 a25 := Try.isAgg108
 z25 := Try.sizeOf108
 v25 := Try.zeroValue108
 t39 := Try.underlying118
 a39 := Try.isAgg118
 z39 := Try.sizeOf118
 v39 := Try.zeroValue118
 t45 := Try.underlying145
 a45 := Try.isAgg145
 z45 := Try.sizeOf145
 v45 := Try.zeroValue145
 t46 := Try.underlying146
 a46 := Try.isAgg146
 z46 := Try.sizeOf146
 v46 := Try.zeroValue146
 t50 := Try.underlying36
 a50 := Try.isAgg36
 z50 := Try.sizeOf36
 v50 := Try.zeroValue36
 t53 := Try.underlying117
 a53 := Try.isAgg117
 z53 := Try.sizeOf117
 v53 := Try.zeroValue117
 t55 := Try.underlying115
 a55 := Try.isAgg115
 z55 := Try.sizeOf115
 v55 := Try.zeroValue115
 t66 := Try.underlying156
 a66 := Try.isAgg156
 z66 := Try.sizeOf156
 v66 := Try.zeroValue156
 t70 := Try.underlying160
 a70 := Try.isAgg160
 z70 := Try.sizeOf160
 v70 := Try.zeroValue160
 t76 := Try.underlying168
 a76 := Try.isAgg168
 z76 := Try.sizeOf168
 v76 := Try.zeroValue168
 t77 := Try.underlying169
 a77 := Try.isAgg169
 z77 := Try.sizeOf169
 v77 := Try.zeroValue169 }
end Go.Proofs.Ytelklgdmhnkenaa.U
namespace Go.Proofs.Ytelklgdmhnkenaa.U
attribute [local go_sem] max2_int min2_int max_two min_two max_three min_three max_four min_four
abbrev Pc := Int × Int × Int
def pcell (p : Pc) : List Value := [.int .i64 p.1, .int .i64 p.2.1, .int .i64 p.2.2]
def cellsP (qs : List Pc) : List Value := qs.flatMap pcell ++ (List.replicate (45 - 3 * qs.length) (.int .i64 0) ++ [.int .i64 qs.length])
def PB (w : World) (g : Nat) (qs : List Pc) : Prop := qs.length ≤ 15 ∧ w.heap[g]? = some (.cells (cellsP qs).toArray 87 (0, 0))
def addS (at_ : Int) : Int → List S99 → List Pc
 | _, [] => []
 | b, s :: l => if b < s.f0 then (at_, s.f0 - b, s.f1) :: addS at_ 0 l else addS at_ (b - s.f0) l
theorem flat_len (qs : List Pc) : (qs.flatMap pcell).length = 3 * qs.length := by
 induction qs with
 | nil => rfl
 | cons p l ih => rw [List.flatMap_cons, List.length_append, ih]; simp [pcell]; omega
theorem cellsP_n {qs : List Pc} (h : qs.length ≤ 15) : (cellsP qs)[45]? = some (.int .i64 qs.length) := by
 unfold cellsP
 rw [List.getElem?_append_right (by rw [flat_len]; omega), flat_len, List.getElem?_append_right (by simp)]
 simp
theorem cellsP_z {qs : List Pc} (h : qs.length < 15) (i : Nat) (hi : i < 3) : (cellsP qs)[qs.length * 3 + i]? = some (.int .i64 0) := by
 unfold cellsP
 rw [List.getElem?_append_right (by rw [flat_len]; omega), flat_len, List.getElem?_append_left (by simp; omega)]
 rw [List.getElem?_replicate, if_pos (by omega)]
theorem cellsP_snoc {qs : List Pc} (h : qs.length < 15) (p : Pc) :
  ((((cellsP qs).set (3 * qs.length) (.int .i64 p.1)).set (3 * qs.length + 1) (.int .i64 p.2.1)).set (3 * qs.length + 2) (.int .i64 p.2.2)).set 45 (.int .i64 ((qs.length : Int) + 1)) = cellsP (qs ++ [p]) := by
 obtain ⟨m, hm⟩ : ∃ m, 45 - 3 * qs.length = m + 3 := ⟨42 - 3 * qs.length, (by omega)⟩
 have h2 : 45 - 3 * (qs ++ [p]).length = m := by simp; omega
 unfold cellsP
 rw [hm, h2, List.flatMap_append]
 have hl := flat_len qs
 have e1 : 3 * qs.length + 1 - (qs.flatMap pcell).length = 1 := by omega
 have e2 : 3 * qs.length + 2 - (qs.flatMap pcell).length = 2 := by omega
 have e0 : 3 * qs.length - (qs.flatMap pcell).length = 0 := by omega
 have e3 : 45 - (qs.flatMap pcell).length = m + 3 := by omega
 rw [List.set_append_right _ _ (by omega), e0, List.set_append_right _ _ (by omega), e1, List.set_append_right _ _ (by omega), e2, List.set_append_right _ _ (by omega), e3, List.append_assoc]
 congr 1
 simp [List.replicate_succ, pcell, List.set_append]
def okS (b : Int) (l : List S99) : Prop := 0 ≤ b ∧ b ≤ 1000000000000 ∧ ∀ s ∈ l, 0 ≤ s.f0 ∧ s.f0 ≤ 1000000000000
theorem keep_setg {w W : World} {g : Nat} (h : KeepBut w W g none) (o : Nat) (u : Value) : KeepBut w (W.setCell ⟨g, o, none⟩ u) g none := ⟨(by simpa [World.setCell] using h.1), fun i hi hg hr => (Below.heap_setCell W ⟨g, o, none⟩ u i hg).trans (h.2 i hi hg hr)⟩
theorem cut_lt {n kq j m : Nat} (h : n + kq ≤ 15) (h2 : kq + j = m) (h3 : j < m) : n < 15 := by omega
set_option maxHeartbeats 8000000 in
set_option maxRecDepth 100000 in
theorem pieces_add_calls (w0 : World) (g : Nat) (at_ u0 u1 u3 u4 u5 u6 u7 u8 : Int) (A2 : Option Addr) (c2 : Nat) (l2 : List S99) (ps : List Pc) (w : World) (hb0 : Below w0.heap.size w0 w) (hg : w0.heap.size ≤ g) (hP : PB w g ps) (hr : Kd.C k99 w0 A2 l2.length l2) (hn : ps.length + l2.length ≤ 15) (hk : okS u1 l2) :
  Calls Try.prog 55 #[.pointer (some ⟨g, 0, none⟩), .int .i64 at_, .agg #[.int .i64 u0, .int .i64 u1, .slice A2 l2.length c2, .int .i64 u3, .int .i64 u4, .int .i64 u5, .int .i64 u6, .int .i64 u7, .int .i64 u8]] w fun e w' => e = .returned (.tuple #[]) ∧ PB w' g (ps ++ addS at_ u1 l2) ∧ Below w0.heap.size w0 w' ∧ KeepBut w w' g none := by
 have HR := Aside0.mk hr
 have HB0 := Aside0.mk hb0
 have HG := Aside0.mk hg
 have HP := Aside0.mk hP
 have HN := Aside0.mk hn
 have HK := Aside0.mk hk
 clear hr hb0 hg hP hn hk
 have hu24 := Try.underlying24
 have hu99 := Try.underlying99
 have hu87 := Try.underlying87
 have hu84 := Try.underlying84
 have hu85 := Try.underlying85
 have HSZ := Aside0.mk HB0.out.size
 go_enter Try.func55, Try.ntmps55
 go_wp2_with fail
 go_loopg [6, 15] l2.length (fun kq v6 v15 wc => ∃ (b : Int) (j : Nat) (qs : List Pc), v6 = .int .i64 b ∧ v15 = .int .i64 j ∧ Aside0 (kq + j = l2.length) ∧ Aside0 (ps ++ addS at_ u1 l2 = qs ++ addS at_ b (l2.drop j)) ∧ Aside0 (qs.length + kq ≤ 15) ∧ Aside0 (okS b (l2.drop j)) ∧ Aside0 (PB wc g qs) ∧ Aside0 (Below w0.heap.size w0 wc) ∧ Aside0 (KeepBut w wc g none))
 case atStart =>
  have hsz := HSZ.out
  have hb := (below_alloc (Below.refl w.heap.size w) (.cells #[.int .i64 u0, .int .i64 u1, .slice A2 l2.length c2, .int .i64 u3, .int .i64 u4, .int .i64 u5, .int .i64 u6, .int .i64 u7, .int .i64 u8] 24 (0, 0)))
  exact ⟨u1, 0, ps, rfl, rfl, ⟨rfl⟩, ⟨(by rw [List.drop_zero])⟩, ⟨HN.out⟩, ⟨(by rw [List.drop_zero]; exact HK.out)⟩, ⟨HP.out.1, any_below HP.out.2 hb⟩, ⟨below_step HB0.out hb⟩, ⟨hb.size, fun k hk _ _ => hb.block k hk⟩⟩
 case round =>
  obtain ⟨b, j, qs, rfl, rfl, HJ, HE, HL, HO, HQ, HB, HKP⟩ := hrel
  by_cases hj : j < l2.length
  ·obtain ⟨k1, rfl⟩ : ∃ k1, gk = k1 + 1 := ⟨gk - 1, m_145⟩
   have hp : 0 ≤ (j : Int) := by omega
   have hq : (j : Int) < (l2.length : Int) := by omega
   obtain ⟨ad, e1, x0, x1⟩ := at_T99 HR.out (j : Int) hp hq
   subst e1
   replace x0 := (HB.out.cell (World.block_lt_of_cell? w0 _ x0)).trans x0
   replace x1 := (HB.out.cell (World.block_lt_of_cell? w0 _ x1)).trans x1
   have hd : l2.drop j = l2[j] :: l2.drop (j + 1) := List.drop_eq_getElem_cons hj
   have hr0 : rd_T99 l2 (j : Int) = l2[j] := rd99 l2 j hj
   rw [hr0, Int.toNat_natCast] at x0 x1
   obtain ⟨s, hs⟩ : ∃ s, s = l2[j] := ⟨_, rfl⟩
   rw [← hs] at x0 x1 hd
   have HD := Aside0.mk hd
   clear hd hr0 hs
   have qj : decide ((j : Int) < (l2.length : Int)) = true := decide_eq_true hq
   have qj2 : decide (j < l2.length) = true := decide_eq_true hj
   replace hq := eq_true hq
   replace hp := eq_true hp
   have HJ2 := Aside0.mk hj
   clear hj
   have wj : wrap64 ((j : Int) + 1) = ((j + 1 : Nat) : Int) := by have h1 := HJ2.out; have h2 := HN.out; exact (wrap64_id (by omega) (by omega)).trans (by omega)
   by_cases hm : b < s.f0
   ·have HM := Aside0.mk hm
    have m1 : (s.f0 < b) = False := eq_false (by omega)
    have m2 : (b < s.f0) = True := eq_true hm
    clear hm
    have z1 : wr.cell? ⟨g, 45, none⟩ = some (.int .i64 qs.length) := by
     rw [blk_cell HQ.out.2 45, List.getElem?_toArray]
     exact cellsP_n HQ.out.1
    have z2 := blk_frozen HQ.out.2 45
    have HZ := Aside0.mk z1
    clear z1 z2
    go_upto_region 8 with (fail)
    refine wp_gen (F := fun Wk => Wk.heap[wr.heap.size]? = some (.cells #[.int .i64 s.f0, .int .i64 s.f1] 99 (0, 0)) ∧ Wk.heap[g]? = some (.cells (cellsP qs).toArray 87 (0, 0)) ∧ Below w0.heap.size w0 Wk ∧ KeepBut w Wk g none ∧ wr.heap.size ≤ Wk.heap.size) ?_ ?_
    ·have hb := below_alloc (Below.refl wr.heap.size wr) (.cells #[.int .i64 s.f0, .int .i64 s.f1] 99 (0, 0))
     exact ⟨blk_new _ _, any_below HQ.out.2 hb, below_step HB.out hb, ⟨Nat.le_trans HKP.out.1 hb.size, fun k hk hne hr => (hb.block k (Nat.lt_of_lt_of_le hk HKP.out.1)).trans (HKP.out.2 k hk hne hr)⟩, hb.size⟩
    rintro Wk ⟨m0, m1, m2, m3, m4⟩
    obtain ⟨gb, hgb⟩ : ∃ gb, gb = wr.heap.size := ⟨_, rfl⟩
    rw [← hgb] at m0 ⊢
    have hne : gb ≠ g := by intro e; rw [e] at hgb; have := blk_lt HQ.out.2; omega
    have hgw : w0.heap.size ≤ gb ∧ w.heap.size ≤ gb := ⟨(by have := HB.out.size; omega), (by have := HKP.out.1; omega)⟩
    have BB := Aside0.mk (blk_drew m0)
    have BG := Aside0.mk (blk_drew m1)
    have HB2 := Aside0.mk (below_drew1 m2)
    have HK2 := Aside0.mk (show KeepBut w Wk.drew g none from m3)
    have HNE := Aside0.mk hne
    have HGW := Aside0.mk hgw
    clear m0 m1 m2 m3 m4 hgb hne hgw
    have hlt := cut_lt HL.out HJ.out HJ2.out
    have w1 : wrap64 (s.f0 - b) = s.f0 - b := by have h := HO.out; rw [HD.out] at h; have h2 := h.2.2 s List.mem_cons_self; have h1 := h.1; have h3 := h.2.1; exact wrap64_id (by omega) (by omega)
    have hlen : (qs.length : Int) < 15 := by omega
    have hl1 : decide ((qs.length : Int) < 15) = true := decide_eq_true hlen
    have hl2 : decide (qs.length < 15) = true := decide_eq_true hlt
    have HLT := Aside0.mk hlt
    clear hlt
    have r1 := eq_true hlen
    have r0 : (0 ≤ (qs.length : Int)) = True := eq_true (by omega)
    clear hlen
    refine start_ (n := 17) (S := fun w' => w'.cell? ⟨gb, 0, none⟩ = some (.int .i64 s.f0) ∧ w'.cell? ⟨gb, 1, none⟩ = some (.int .i64 s.f1) ∧ w'.cell? ⟨g, 45, none⟩ = some (.int .i64 qs.length)) (ds := []) #[false, false, false, false, false, false, false, false, false, false, false, false, false, false, false, false, false] m_13 rfl rfl ⟨(blk_cell BB.out 0).trans rfl, (blk_cell BB.out 1).trans rfl, (blk_cell BG.out 45).trans ((List.getElem?_toArray ..).trans (cellsP_n (by have := HLT.out; omega)))⟩ (fun hHeld => ?_)
    generalize Wk.drew = Wd at BB BG HB2 HK2 hHeld ⊢
    refine pB_ 0 ?_
    refine pB_ 1 ?_
    refine pB_ 2 ?_
    refine pB_ 3 ?_
    refine tB_ 4 hHeld ?_
    refine pB_ 5 ?_
    refine pB_ 6 ?_
    refine tB_ 7 hHeld ?_
    refine pB_ 8 ?_
    refine pB_ 9 ?_
    refine pB_ 10 ?_
    refine tB_ 11 hHeld ?_
    refine pB_ 12 ?_
    refine pB_ 13 ?_
    refine pB_ 14 ?_
    refine pB_ 15 ?_
    refine one_ (i := 16) (N := none) #[true, true, true, true, true, true, true, true, true, true, true, true, true, true, true, true, true] rfl rfl m_13 (by decide) (fun K hK => ?_)
    have y0 : Wd.cell? ⟨g, qs.length * 3, none⟩ = some (.int .i64 0) := (blk_cell BG.out _).trans ((List.getElem?_toArray ..).trans (cellsP_z HLT.out 0 (by omega)))
    have y1 : Wd.cell? ⟨g, qs.length * 3 + 1, none⟩ = some (.int .i64 0) := (blk_cell BG.out _).trans ((List.getElem?_toArray ..).trans (cellsP_z HLT.out 1 (by omega)))
    have y2 : Wd.cell? ⟨g, qs.length * 3 + 2, none⟩ = some (.int .i64 0) := (blk_cell BG.out _).trans ((List.getElem?_toArray ..).trans (cellsP_z HLT.out 2 (by omega)))
    have f0 := blk_frozen BG.out (qs.length * 3)
    have f1 := blk_frozen BG.out (qs.length * 3 + 1)
    have f2 := blk_frozen BG.out (qs.length * 3 + 2)
    refine skip_ (w1 := ?_) (by rfl) rfl ?_ ?_
    rotate_left
    ·go_simp
     rfl
    obtain ⟨q0, q1, q2⟩ := hHeld
    have hne := HNE.out
    have g3 := blk_put (blk_put (blk_put BG.out (qs.length * 3) (.int .i64 at_) (List.setIfInBounds_toArray ..)) (qs.length * 3 + 1) (.int .i64 (s.f0 - b)) (List.setIfInBounds_toArray ..)) (qs.length * 3 + 2) (.int .i64 s.f1) (List.setIfInBounds_toArray ..)
    have g45 : ((((cellsP qs).set (qs.length * 3) (.int .i64 at_)).set (qs.length * 3 + 1) (.int .i64 (s.f0 - b))).set (qs.length * 3 + 2) (.int .i64 s.f1))[45]? = some (.int .i64 qs.length) := by
     have := HLT.out
     rw [List.getElem?_set_ne (by omega), List.getElem?_set_ne (by omega), List.getElem?_set_ne (by omega)]
     exact cellsP_n (by omega)
    have far : ∀ (o : Nat) (u : Option Value), Wd.cell? ⟨gb, o, none⟩ = u → (((Wd.setCell ⟨g, qs.length * 3, none⟩ (.int .i64 at_)).setCell ⟨g, qs.length * 3 + 1, none⟩ (.int .i64 (s.f0 - b))).setCell ⟨g, qs.length * 3 + 2, none⟩ (.int .i64 s.f1)).cell? ⟨gb, o, none⟩ = u := fun o u hu => (cell_far (p := ⟨g, _, none⟩) hne _).trans ((cell_far (p := ⟨g, _, none⟩) hne _).trans ((cell_far (p := ⟨g, _, none⟩) hne _).trans hu))
    have hB3 : Below w0.heap.size w0 (((Wd.setCell ⟨g, qs.length * 3, none⟩ (.int .i64 at_)).setCell ⟨g, qs.length * 3 + 1, none⟩ (.int .i64 (s.f0 - b))).setCell ⟨g, qs.length * 3 + 2, none⟩ (.int .i64 s.f1)) := below_set (below_set (below_set HB2.out HG.out) HG.out) HG.out
    have hK3 : KeepBut w (((Wd.setCell ⟨g, qs.length * 3, none⟩ (.int .i64 at_)).setCell ⟨g, qs.length * 3 + 1, none⟩ (.int .i64 (s.f0 - b))).setCell ⟨g, qs.length * 3 + 2, none⟩ (.int .i64 s.f1)) g none := keep_setg (keep_setg (keep_setg HK2.out _ _) _ _) _ _
    refine hK.out _ _ ⟨far _ _ q0, far _ _ q1, (blk_cell g3 45).trans ((List.getElem?_toArray ..).trans g45)⟩ (fun hHeld => ?_)
    clear hK K
    refine done_ m_13 ?_
    have BG3 := Aside0.mk g3
    have HB3 := Aside0.mk hB3
    have HK3 := Aside0.mk hK3
    have z45 := (blk_cell g3 45).trans ((List.getElem?_toArray ..).trans g45)
    have zf := blk_frozen g3 45
    have wn : wrap64 ((qs.length : Int) + 1) = (qs.length : Int) + 1 := by have := HLT.out; exact wrap64_id (by omega) (by omega)
    clear g3 hB3 hK3 g45 far q0 q1 q2 hne hHeld
    clear y0 y1 y2 f0 f1 f2
    generalize ((Wd.setCell ⟨g, qs.length * 3, none⟩ (.int .i64 at_)).setCell ⟨g, qs.length * 3 + 1, none⟩ (.int .i64 (s.f0 - b))).setCell ⟨g, qs.length * 3 + 2, none⟩ (.int .i64 s.f1) = W3 at BG3 HB3 HK3 z45 zf ⊢
    go_wp2_with fail
    go_roundg k1
    case measure => omega
    case rel =>
     have hlt := HLT.out
     refine ⟨0, j + 1, qs ++ [(at_, s.f0 - b, s.f1)], rfl, (by rw [wj]), ⟨m_145⟩, ⟨?_⟩, ⟨(by have := HL.out; rw [List.length_append, List.length_singleton]; omega)⟩, ⟨?_⟩, ⟨(by rw [List.length_append, List.length_singleton]; omega), ?_⟩, ⟨below_set HB3.out HG.out⟩, ⟨keep_setg HK3.out _ _⟩⟩
     ·rw [HE.out, HD.out, addS, if_pos HM.out, List.append_assoc]
      rfl
     ·have h := HO.out
      rw [HD.out] at h
      exact ⟨(by omega), (by omega), fun x hx => h.2.2 x (List.mem_cons_of_mem _ hx)⟩
     ·refine (blk_put BG3.out 45 _ (List.setIfInBounds_toArray ..)).trans ?_
      have e := cellsP_snoc hlt (at_, s.f0 - b, s.f1)
      rw [Nat.mul_comm 3 qs.length] at e
      rw [← e]
   ·by_cases he : s.f0 < b
    ·have m1 : (s.f0 < b) = True := eq_true he
     have wb : wrap64 (b - s.f0) = b - s.f0 := by
      have h := HO.out
      rw [HD.out] at h
      have h2 := h.2.2 s List.mem_cons_self
      have h3 := h.2.1
      exact wrap64_id (by omega) (by omega)
     have HM := Aside0.mk hm
     clear hm he
     go_wp2_with fail
     go_roundg k1
     case measure => omega
     case rel =>
      have hm := HM.out
      have hb := below_alloc (Below.refl wr.heap.size wr) (.cells #[.int .i64 s.f0, .int .i64 s.f1] 99 (0, 0))
      refine ⟨b - s.f0, j + 1, qs, (by first | rfl | rw [wb]), m_134, ⟨m_145⟩, ⟨?_⟩, ⟨(by have := HL.out; omega)⟩, ⟨?_⟩, ⟨HQ.out.1, any_below HQ.out.2 hb⟩, ⟨below_step HB.out hb⟩, ⟨Nat.le_trans HKP.out.1 hb.size, fun k hk hne hr => (hb.block k (Nat.lt_of_lt_of_le hk HKP.out.1)).trans (HKP.out.2 k hk hne hr)⟩⟩
      ·rw [HE.out, HD.out, addS, if_neg (by omega)]
      ·have h := HO.out
       rw [HD.out] at h
       have h2 := h.2.2 s List.mem_cons_self
       have h1 := h.1
       have h3 := h.2.1
       exact ⟨(by omega), (by omega), fun x hx => h.2.2 x (List.mem_cons_of_mem _ hx)⟩
    ·obtain rfl : b = s.f0 := by omega
     have w00 : wrap64 0 = 0 := wrap64_id (by omega) (by omega)
     have HM := Aside0.mk hm
     clear hm he
     go_wp2_with fail
     go_roundg k1
     case measure => omega
     case rel =>
      have hm := HM.out
      have hb := below_alloc (Below.refl wr.heap.size wr) (.cells #[.int .i64 s.f0, .int .i64 s.f1] 99 (0, 0))
      refine ⟨0, j + 1, qs, (by first | rfl | rw [w00] | simp [w00]), m_134, ⟨m_145⟩, ⟨?_⟩, ⟨(by have := HL.out; omega)⟩, ⟨?_⟩, ⟨HQ.out.1, any_below HQ.out.2 hb⟩, ⟨below_step HB.out hb⟩, ⟨Nat.le_trans HKP.out.1 hb.size, fun k hk hne hr => (hb.block k (Nat.lt_of_lt_of_le hk HKP.out.1)).trans (HKP.out.2 k hk hne hr)⟩⟩
      ·rw [HE.out, HD.out, addS, if_neg (by omega)]
       rw [Int.sub_self]
      ·have h := HO.out
       rw [HD.out] at h
       have h2 := h.2.2 s List.mem_cons_self
       have h1 := h.1
       have h3 := h.2.1
       exact ⟨(by omega), (by omega), fun x hx => h.2.2 x (List.mem_cons_of_mem _ hx)⟩
  ·have hz : l2.drop j = [] := List.drop_eq_nil_of_le (by omega)
   have qj : decide ((j : Int) < (l2.length : Int)) = false := decide_eq_false (by omega)
   have qj2 : decide (j < l2.length) = false := decide_eq_false hj
   have qj3 : ((j : Int) < (l2.length : Int)) = False := eq_false (by omega)
   have qj4 : (j < l2.length) = False := eq_false hj
   have HZ := Aside0.mk hz
   clear hz hj
   go_wp2_with fail
   go_end0
   refine ⟨rfl, ?_, HB.out, HKP.out⟩
   rw [HE.out, HZ.out, addS, List.append_nil]
   exact HQ.out
end Go.Proofs.Ytelklgdmhnkenaa.U
namespace Go.Proofs.Ytelklgdmhnkenaa.U
open Go.Proofs Go.Shelf Go.RowKit Go.Lib Go.Sort Go.Proofs.YtelklgdmhnkenaaW.PrintWords Go.Proofs.YtelklgdmhnkenaaW.PrintLast Go.Proofs.YtelklgdmhnkenaaW.PrintMore
def cfP (x y : Pc) : Int := if Lib.compareInt x.2.2 y.2.2 = 0 then Lib.compareInt y.1 x.1 else Lib.compareInt x.2.2 y.2.2
def Gr (W W' : World) : Prop := ∃ q os, W' = grow (W.drewN q) os
theorem Gr.refl (W : World) : Gr W W := ⟨0, #[], (by rw [grow_empty]; rfl)⟩
theorem Gr.drewN {W W' : World} (h : Gr W W') (m : Nat) : Gr W (W'.drewN m) := by
 obtain ⟨q, os, rfl⟩ := h
 exact ⟨q + m, os, (by rw [← World.drewN_drewN]; rfl)⟩
theorem Gr.drew {W W' : World} (h : Gr W W') : Gr W W'.drew := h.drewN 1
theorem Gr.alloc {W W' : World} (h : Gr W W') (o : Obj) : Gr W (W'.alloc o) := by
 obtain ⟨q, os, rfl⟩ := h
 exact ⟨q, os ++ #[o], (by rw [alloc_eq_grow, grow_grow])⟩
theorem Gr.drawn {W W' W2 : World} (h : Gr W W') (hd : Drawn0 W' W2) : Gr W W2 := by
 obtain ⟨m, rfl⟩ := hd
 exact h.drewN m
theorem cmp64 (a b : Int) : cmp_Compare_int64.f a b = some (Lib.compareInt a b) := by
 unfold cmp_Compare_int64.f cmp_isNaN_int64.f Lib.compareInt
 simp
 split
 ·rfl
 ·split <;> rfl
theorem cmpI (a b : Int) : cmp_Compare_int.f a b = some (Lib.compareInt a b) := by
 unfold cmp_Compare_int.f cmp_isNaN_int.f Lib.compareInt
 simp
 split
 ·rfl
 ·split <;> rfl
theorem or2 (a b : Int) : cmp_Or_int.f 9 [a, b] = some (if a = 0 then b else a) := by
 unfold cmp_Or_int.f
 by_cases ha : a = 0
 ·subst ha
  by_cases hb : b = 0
  ·subst hb
   simp [cmp_Or_int.l0, YtelklgdmhnkenaaW.PrintWords.rd, wrap64]
  ·simp [cmp_Or_int.l0, YtelklgdmhnkenaaW.PrintWords.rd, wrap64, hb]
 ·simp [cmp_Or_int.l0, YtelklgdmhnkenaaW.PrintWords.rd, wrap64, ha]
theorem two_reads {w : World} {g : Nat} {a b : Int} (h : w.heap[g]? = some (.cells #[.int .i64 a, .int .i64 b] 3 (0, 0))) : Kd.C (Kd.int .i64) w (some ⟨g, 0, none⟩) 2 [a, b] := by
 refine ⟨rfl, (by decide), fun _ => ⟨_, rfl, fun j p hp => ?_⟩⟩
 match j, hp with
 | 0, hp => obtain rfl := Option.some.inj hp; exact ⟨[.int .i64 a], rfl, rfl, fun i u hu => by match i, hu with | 0, hu => (obtain rfl := Option.some.inj hu; exact blk_cell h 0)⟩
 | 1, hp => obtain rfl := Option.some.inj hp; exact ⟨[.int .i64 b], rfl, rfl, fun i u hu => by match i, hu with | 0, hu => (obtain rfl := Option.some.inj hu; exact blk_cell h 1)⟩
 | j + 2, hp => cases hp
set_option maxHeartbeats 8000000 in
set_option maxRecDepth 100000 in
theorem closure70 (x y : Pc) (W : World) : Calls Try.prog 70 #[.agg #[.int .i64 x.1, .int .i64 x.2.1, .int .i64 x.2.2], .agg #[.int .i64 y.1, .int .i64 y.2.1, .int .i64 y.2.2]] W fun e w' => e = .returned (.int .i64 (cfP x y)) ∧ Gr W w' := by
 obtain ⟨c1_, h1⟩ : ∃ c, c = Lib.compareInt x.2.2 y.2.2 := ⟨_, rfl⟩
 obtain ⟨c2_, h2⟩ : ∃ c, c = Lib.compareInt y.1 x.1 := ⟨_, rfl⟩
 have H1 := Aside0.mk (cmp64 x.2.2 y.2.2)
 have H2 := Aside0.mk (cmpI y.1 x.1)
 have H3 := Aside0.mk (or2 c1_ c2_)
 rw [← h1] at H1
 rw [← h2] at H2
 obtain ⟨kk, hkk⟩ : ∃ k, k = 9 := ⟨_, rfl⟩
 rw [← hkk] at H3
 have e : cfP x y = if c1_ = 0 then c2_ else c1_ := by unfold cfP; rw [h1, h2]
 rw [e]
 obtain ⟨r, hr⟩ : ∃ r, r = if c1_ = 0 then c2_ else c1_ := ⟨_, rfl⟩
 rw [← hr] at H3 ⊢
 clear h1 h2 hkk e hr
 have hu84 := Try.underlying84
 go_enter Try.func70, Try.ntmps70
 go_upto_region 1 with (fail)
 refine wp_gen (F := fun Wk => Wk.heap[W.heap.size]? = some (.cells #[.int .i64 x.1, .int .i64 x.2.1, .int .i64 x.2.2] 84 (0, 0)) ∧ Wk.heap[W.heap.size + 1]? = some (.cells #[.int .i64 y.1, .int .i64 y.2.1, .int .i64 y.2.2] 84 (0, 0)) ∧ Gr W Wk) ?_ ?_
 ·have a1 := blk_new W (.cells #[.int .i64 x.1, .int .i64 x.2.1, .int .i64 x.2.2] 84 (0, 0))
  have a2 := blk_new (W.alloc (.cells #[.int .i64 x.1, .int .i64 x.2.1, .int .i64 x.2.2] 84 (0, 0))) (.cells #[.int .i64 y.1, .int .i64 y.2.1, .int .i64 y.2.2] 84 (0, 0))
  rw [show (W.alloc (.cells #[.int .i64 x.1, .int .i64 x.2.1, .int .i64 x.2.2] 84 (0, 0))).heap.size = W.heap.size + 1 by simp] at a2
  exact ⟨any_below a1 (below_alloc (Below.refl _ _) _), a2, ((Gr.refl W).alloc _).alloc _⟩
 rintro Wk ⟨m0, m1, m2⟩
 obtain ⟨ga, hga⟩ : ∃ g, g = W.heap.size := ⟨_, rfl⟩
 obtain ⟨gb, hgb⟩ : ∃ g, g = W.heap.size + 1 := ⟨_, rfl⟩
 rw [← hgb] at m1 ⊢
 rw [← hga] at m0 ⊢
 clear hga hgb
 have BA := Aside0.mk (blk_drew m0)
 have BB := Aside0.mk (blk_drew m1)
 have HG := Aside0.mk m2.drew
 clear m0 m1 m2
 refine start_ (n := 13) (S := fun w' => w'.cell? ⟨ga, 0, none⟩ = some (.int .i64 x.1) ∧ w'.cell? ⟨ga, 2, none⟩ = some (.int .i64 x.2.2) ∧ w'.cell? ⟨gb, 0, none⟩ = some (.int .i64 y.1) ∧ w'.cell? ⟨gb, 2, none⟩ = some (.int .i64 y.2.2)) (ds := []) #[false, false, false, false, false, false, false, false, false, false, false, false, false] m_13 rfl rfl ⟨(blk_cell BA.out 0).trans rfl, (blk_cell BA.out 2).trans rfl, (blk_cell BB.out 0).trans rfl, (blk_cell BB.out 2).trans rfl⟩ (fun hHeld => ?_)
 generalize Wk.drew = Wd at BA BB HG hHeld ⊢
 refine pB_ 0 ?_
 refine pB_ 2 ?_
 refine pB_ 5 ?_
 refine pB_ 7 ?_
 refine tB_ 1 hHeld ?_
 refine tB_ 3 hHeld ?_
 refine tB_ 6 hHeld ?_
 refine tB_ 8 hHeld ?_
 refine one_ (i := 4) (N := some 9) #[true, true, true, true, true, true, true, true, true, false, false, false, false] rfl rfl m_13 (by decide) (fun K hK => ?_)
 refine goes_ Try.func72 m_13 rfl #[.int .i64 x.2.2, .int .i64 y.2.2] (by rfl) rfl rfl m_23 ?_
 refine (cmp_Compare_int64.calls _ _ _ _ H1.out).mono ?_
 rintro e w1 ⟨rfl, hd⟩
 refine ⟨_, rfl, ?_⟩
 have hb := hd.below
 replace BA := Aside0.mk (any_below BA.out hb)
 replace BB := Aside0.mk (any_below BB.out hb)
 replace HG := Aside0.mk (HG.out.drawn hd)
 clear hb hd
 refine hK.out _ _ ⟨(blk_cell BA.out 0).trans rfl, (blk_cell BA.out 2).trans rfl, (blk_cell BB.out 0).trans rfl, (blk_cell BB.out 2).trans rfl⟩ (fun hHeld => ?_)
 clear hK K
 refine norm_ (a' := ?_) ?_ ?_
 rotate_left
 ·show Act.put _ (some 9) _ = _
  simp only [Act.put, List.setIfInBounds_toArray, List.set_cons_zero, List.set_cons_succ, i64_w, i32_w]
  rfl
 refine one_ (i := 9) (N := some 14) #[true, true, true, true, true, true, true, true, true, true, false, false, false] rfl rfl m_13 (by decide) (fun K hK => ?_)
 refine goes_ Try.func73 m_13 rfl #[.int .i64 y.1, .int .i64 x.1] (by rfl) rfl rfl m_23 ?_
 refine (cmp_Compare_int.calls _ _ _ _ H2.out).mono ?_
 rintro e w2 ⟨rfl, hd⟩
 refine ⟨_, rfl, ?_⟩
 have hb := hd.below
 replace BA := Aside0.mk (any_below BA.out hb)
 replace BB := Aside0.mk (any_below BB.out hb)
 replace HG := Aside0.mk (HG.out.drawn hd)
 clear hb hd
 refine hK.out _ _ ⟨(blk_cell BA.out 0).trans rfl, (blk_cell BA.out 2).trans rfl, (blk_cell BB.out 0).trans rfl, (blk_cell BB.out 2).trans rfl⟩ (fun hHeld => ?_)
 clear hK K
 refine norm_ (a' := ?_) ?_ ?_
 rotate_left
 ·show Act.put _ (some 14) _ = _
  simp only [Act.put, List.setIfInBounds_toArray, List.set_cons_zero, List.set_cons_succ, i64_w, i32_w]
  rfl
 refine one_ (i := 10) (N := some 15) #[true, true, true, true, true, true, true, true, true, true, true, false, false] rfl rfl m_13 (by decide) (fun K hK => ?_)
 refine value_ (w1 := w2.alloc (.cells #[.int .i64 c1_, .int .i64 c2_] 3 (0, 0))) (v := .slice (some ⟨w2.heap.size, 0, none⟩) 2 2) (by rfl) rfl ?_ ?_
 ·go_simp
 have hb := below_alloc (Below.refl w2.heap.size w2) (.cells #[.int .i64 c1_, .int .i64 c2_] 3 (0, 0))
 have BC := Aside0.mk (blk_new w2 (.cells #[.int .i64 c1_, .int .i64 c2_] 3 (0, 0)))
 replace BA := Aside0.mk (any_below BA.out hb)
 replace BB := Aside0.mk (any_below BB.out hb)
 replace HG := Aside0.mk (HG.out.alloc (.cells #[.int .i64 c1_, .int .i64 c2_] 3 (0, 0)))
 clear hb
 obtain ⟨gc, hgc⟩ : ∃ gc, gc = w2.heap.size := ⟨_, rfl⟩
 rw [← hgc] at BC ⊢
 clear hgc
 generalize w2.alloc (.cells #[.int .i64 c1_, .int .i64 c2_] 3 (0, 0)) = w3 at BA BB BC HG ⊢
 refine hK.out _ _ ⟨(blk_cell BA.out 0).trans rfl, (blk_cell BA.out 2).trans rfl, (blk_cell BB.out 0).trans rfl, (blk_cell BB.out 2).trans rfl⟩ (fun hHeld => ?_)
 clear hK K
 refine norm_ (a' := ?_) ?_ ?_
 rotate_left
 ·show Act.put _ (some 15) _ = _
  simp only [Act.put, List.setIfInBounds_toArray, List.set_cons_zero, List.set_cons_succ, i64_w, i32_w]
  rfl
 refine one_ (i := 11) (N := some 16) #[true, true, true, true, true, true, true, true, true, true, true, true, false] rfl rfl m_13 (by decide) (fun K hK => ?_)
 refine goes_ Try.func71 m_13 rfl #[.slice (some ⟨gc, 0, none⟩) 2 2] (by rfl) rfl rfl m_23 ?_
 refine (cmp_Or_int.calls kk _ 2 [c1_, c2_] _ _ (two_reads BC.out) (Nat.le_refl _) H3.out).mono ?_
 rintro e w4 ⟨rfl, hd⟩
 refine ⟨_, rfl, ?_⟩
 have hb := hd.below
 replace BA := Aside0.mk (any_below BA.out hb)
 replace BB := Aside0.mk (any_below BB.out hb)
 replace HG := Aside0.mk (HG.out.drawn hd)
 clear hb hd
 refine hK.out _ _ ⟨(blk_cell BA.out 0).trans rfl, (blk_cell BA.out 2).trans rfl, (blk_cell BB.out 0).trans rfl, (blk_cell BB.out 2).trans rfl⟩ (fun hHeld => ?_)
 clear hK K
 refine norm_ (a' := ?_) ?_ ?_
 rotate_left
 ·show Act.put _ (some 16) _ = _
  simp only [Act.put, List.setIfInBounds_toArray, List.set_cons_zero, List.set_cons_succ, i64_w, i32_w]
  rfl
 refine pB_ 12 ?_
 refine done_ m_13 ?_
 go_wp2_with fail
 go_ret
 exact ⟨rfl, HG.out⟩
end Go.Proofs.Ytelklgdmhnkenaa.U
namespace Go.Proofs.Ytelklgdmhnkenaa.U
open Go.Proofs Go.Shelf Go.RowKit Go.Lib Go.Sort Go.Proofs.YtelklgdmhnkenaaW.PrintWords Go.Proofs.YtelklgdmhnkenaaW.PrintLast Go.Proofs.YtelklgdmhnkenaaW.PrintMore
def z84 : Pc := (0, 0, 0)
theorem flat_get : ∀ (qs : List Pc) (t : Nat), t < 3 * qs.length → (qs.flatMap pcell)[t]? = (pcell (qs.getD (t / 3) z84))[t % 3]?
 | [], t, h => by simp at h
 | p :: l, t, h => by
  rw [List.flatMap_cons]
  by_cases ht : t < 3
  ·rw [List.getElem?_append_left (by simp [pcell]; omega), Nat.div_eq_of_lt ht, Nat.mod_eq_of_lt ht]
   rfl
  ·rw [List.getElem?_append_right (by simp [pcell]; omega)]
   have e : (pcell p).length = 3 := rfl
   rw [e, flat_get l (t - 3) (by simp at h; omega)]
   obtain ⟨m, rfl⟩ : ∃ m, t = m + 3 := ⟨t - 3, (by omega)⟩
   rw [Nat.add_sub_cancel, show (m + 3) / 3 = m / 3 + 1 by omega, show (m + 3) % 3 = m % 3 by omega]
   rfl
theorem cellsP_lo {qs : List Pc} {t : Nat} (h : t < 3 * qs.length) : (cellsP qs)[t]? = (pcell (qs.getD (t / 3) z84))[t % 3]? := by
 unfold cellsP
 rw [List.getElem?_append_left (by rw [flat_len]; exact h), flat_get qs t h]
theorem cellsP_hi {qs qs' : List Pc} {t : Nat} (e : qs'.length = qs.length) (h : 3 * qs.length ≤ t) : (cellsP qs')[t]? = (cellsP qs)[t]? := by
 unfold cellsP
 rw [List.getElem?_append_right (l₁ := qs'.flatMap pcell) (by rw [flat_len]; omega), List.getElem?_append_right (l₁ := qs.flatMap pcell) (by rw [flat_len]; omega), flat_len, flat_len, e]
instance : Inhabited Pc := ⟨z84⟩
theorem holds_P {w : World} {g : Nat} {qs : List Pc} (h : w.heap[g]? = some (.cells (cellsP qs).toArray 87 (0, 0))) (hn : qs.length ≤ 15) : HoldsK pcell 3 w g 0 qs.toArray := by
 intro j hj
 have hj' : j < 3 * qs.length := by simpa [Nat.mul_comm] using hj
 refine ⟨?_, blk_frozen h _⟩
 rw [blk_cell h, Nat.zero_add, List.getElem?_toArray, cellsP_lo hj', get_flatK _ _ _ _ (by simpa using hj)]
 have hq : j / 3 < qs.length := by omega
 have e1 : qs.getD (j / 3) z84 = qs[j / 3] := by simp [hq]
 have e2 : qs.toArray[j / 3]! = qs[j / 3] := by simp [hq]
 rw [e1, e2]
 have h3 : j % 3 < (pcell qs[j / 3]).length := by have : (pcell qs[j / 3]).length = 3 := rfl; omega
 rw [List.getElem?_eq_getElem h3]
 simp [h3]
theorem put_P {qs : List Pc} {d : Array Pc} (hd : d.size = qs.length) (hn : qs.length ≤ 15) : putCells id 0 (flatK pcell 3 d) (cellsP qs).toArray = (cellsP d.toList).toArray := by
 apply Array.ext_getElem?
 intro t
 have hl : d.toList.length = qs.length := by simpa using hd
 unfold putCells
 rw [Array.getElem?_mapIdx, List.getElem?_toArray, List.getElem?_toArray]
 by_cases ht : t < 3 * qs.length
 ·have h1 : (0 ≤ t ∧ t < 0 + (flatK pcell 3 d).size) := ⟨(by omega), (by rw [size_flatK]; omega)⟩
  rw [cellsP_lo ht, cellsP_lo (by rw [hl]; exact ht)]
  have hq : t / 3 < qs.length := by omega
  have h3 : t % 3 < 3 := by omega
  have e2 : d.toList.getD (t / 3) z84 = d[t / 3]! := by simp [hd, hq]
  have a3 : ∀ x : Pc, t % 3 < (pcell x).length := fun x => h3
  rw [List.getElem?_eq_getElem (a3 _), List.getElem?_eq_getElem (a3 _), Option.map_some, if_pos h1, Nat.sub_zero, get_flatK _ _ _ _ (by omega), e2]
  simp [a3]
 ·have h1 : ¬ (0 ≤ t ∧ t < 0 + (flatK pcell 3 d).size) := by rw [size_flatK]; omega
  rw [cellsP_hi (qs' := d.toList) hl (by omega)]
  cases hc : (cellsP qs)[t]? with
  | none => rfl
  | some v => rw [Option.map_some, if_neg h1]
theorem ltP (x y : Pc) : ltOf cfP x y = true ↔ x.2.2 < y.2.2 ∨ (x.2.2 = y.2.2 ∧ y.1 < x.1) := by
 unfold ltOf cfP Lib.compareInt
 rw [decide_eq_true_iff]
 split <;> split <;> (try split) <;> (try split) <;> omega
theorem ltP_f (x y : Pc) : ltOf cfP x y = false ↔ ¬ (x.2.2 < y.2.2 ∨ (x.2.2 = y.2.2 ∧ y.1 < x.1)) := by
 rw [← ltP, Bool.not_eq_true]
theorem swoP : SWO (ltOf cfP) where
 irrefl x := by rw [ltP_f]; omega
 trans x y z h1 h2 := by rw [ltP] at *; omega
 ntrans x y z h1 h2 := by rw [ltP_f] at *; omega
theorem cmpLays (blk off size : Nat) (w : World) : CmpLays Try.prog 70 #[] pcell 3 cfP blk off size w :=
 fun _ _ _ _ x y => closure70 x y _
theorem sorted_world {w : World} {g n : Nat} {qs : List Pc} {d : Array Pc} {os : Array Obj} (h : w.heap[g]? = some (.cells (cellsP qs).toArray 87 (0, 0))) (hn : qs.length ≤ 15) (hd : d.size = qs.length) :
  (sortWorldK pcell 3 w g 0 n d os).heap[g]? = some (.cells (cellsP d.toList).toArray 87 (0, 0)) ∧ KeepBut w (sortWorldK pcell 3 w g 0 n d os) g none ∧ (∀ B, B ≤ g → Go.RowKit.Below B w (sortWorldK pcell 3 w g 0 n d os)) := by
 have hl := blk_lt h
 have hh : (sortWorldK pcell 3 w g 0 n d os).heap = w.heap.modify g (onCells (putCells id 0 (flatK pcell 3 d))) ++ os := rfl
 have hs : (w.heap.modify g (onCells (putCells id 0 (flatK pcell 3 d)))).size = w.heap.size := by simp
 have old : ∀ k, k < w.heap.size → k ≠ g → (sortWorldK pcell 3 w g 0 n d os).heap[k]? = w.heap[k]? := by
  intro k hk hne
  rw [hh, Array.getElem?_append_left (by rw [hs]; exact hk), Array.getElem?_modify, if_neg (Ne.symm hne)]
 have size : w.heap.size ≤ (sortWorldK pcell 3 w g 0 n d os).heap.size := by rw [hh, Array.size_append, hs]; omega
 refine ⟨?_, ⟨size, fun k hk hne _ => old k hk hne⟩, fun B hB => ⟨rfl, rfl, rfl, size, fun k hk => ?_⟩⟩
 ·rw [hh, Array.getElem?_append_left (by rw [hs]; exact hl), Array.getElem?_modify, if_pos rfl, h]
  simp only [Option.map_some, onCells]
  rw [put_P hd hn]
 ·by_cases hk2 : k < w.heap.size
  ·exact old k hk2 (by omega)
  ·omega
set_option maxHeartbeats 8000000 in
set_option maxRecDepth 100000 in
theorem pieces_row_calls (w0 : World) (g : Nat) (qs : List Pc) (w : World) (hb0 : Go.RowKit.Below w0.heap.size w0 w) (hg : w0.heap.size ≤ g) (hP : PB w g qs) :
  Calls Try.prog 56 #[.pointer (some ⟨g, 0, none⟩)] w fun e w' => ∃ rs : List Pc, e = .returned (.slice (some ⟨g, 0, none⟩) rs.length 15) ∧ rs.Perm qs ∧ rs.Pairwise (fun x y => ltOf cfP y x = false) ∧ PB w' g rs ∧ Go.RowKit.Below w0.heap.size w0 w' ∧ KeepBut w w' g none := by
 have HN := Aside0.mk hP.1
 have HP := Aside0.mk hP.2
 have HB0 := Aside0.mk hb0
 have HG := Aside0.mk hg
 clear hP hb0 hg
 have hu87 := Try.underlying87
 have hu85 := Try.underlying85
 have hu84 := Try.underlying84
 go_enter Try.func56, Try.ntmps56
 go_upto_region 1 with (fail)
 refine wp_gen (F := fun Wk => Wk.heap[g]? = some (.cells (cellsP qs).toArray 87 (0, 0)) ∧ Go.RowKit.Below w0.heap.size w0 Wk ∧ KeepBut w Wk g none) ⟨HP.out, HB0.out, KeepBut.refl w g none⟩ ?_
 rintro Wk ⟨m1, m2, m3⟩
 have BG := Aside0.mk (blk_drew m1)
 have HB := Aside0.mk (below_drew1 m2)
 have HKP := Aside0.mk (show KeepBut w Wk.drew g none from m3)
 clear m1 m2 m3
 have hn := HN.out
 have r1 : ((qs.length : Int) ≤ 15) = True := eq_true (by omega)
 have r2 : (qs.length ≤ 15) = True := eq_true hn
 have r0 : (0 ≤ (qs.length : Int)) = True := eq_true (by omega)
 have d1 : decide ((qs.length : Int) ≤ 15) = true := decide_eq_true (by omega)
 have d2 : decide (qs.length ≤ 15) = true := decide_eq_true hn
 clear hn
 refine start_ (n := 9) (S := fun w' => w'.cell? ⟨g, 45, none⟩ = some (.int .i64 qs.length)) (ds := []) #[false, false, false, false, false, false, false, false, false] m_13 rfl rfl ((blk_cell BG.out 45).trans ((List.getElem?_toArray ..).trans (cellsP_n HN.out))) (fun hHeld => ?_)
 generalize Wk.drew = Wd at BG HB HKP hHeld ⊢
 refine pB_ 0 ?_
 refine pB_ 1 ?_
 refine pB_ 2 ?_
 refine pB_ 3 ?_
 refine pB_ 4 ?_
 refine pB_ 5 ?_
 refine take_ (i := 6) (N := some 10) (v := ?_) (a' := ?_) #[true, true, true, true, true, true, true, false, false] rfl rfl m_13 (fun _ _ _ h => h) (Or.inl ⟨(by rfl), ?_⟩) hHeld ?_ ?_
 rotate_left
 ·intro w' s0
  go_simp
  with_reducible rfl
 rotate_left
 ·simp only [Act.put, List.setIfInBounds_toArray, List.set_cons_zero, List.set_cons_succ, i64_w, i32_w]
  rfl
 refine pB_ 7 ?_
 refine pB_ 8 ?_
 refine done_ m_13 ?_
 have eg : ∀ args w, (callFunc 70 args).run Try.prog w = .ok (.enter 70 args) w := enters_of Try.func70 m_13 rfl
 have hcon := AnyQ.slices_SortFunc sortPc 3 (fun _ => by kernel_rfl) (fun _ => by kernel_rfl) pcell (fun _ => rfl) (fun x v hv => by simp [pcell] at hv; rcases hv with rfl | rfl | rfl <;> rfl) cfP swoP 70 #[] g 0 15 qs.toArray Wd eg (cmpLays g 0 qs.toArray.size Wd) (holds_P BG.out HN.out) (blk_lt BG.out) (by have := HN.out; simp; omega)
 change Calls Try.prog 69 _ _ _ at hcon
 rw [List.size_toArray] at hcon
 have HC := Aside0.mk hcon
 clear hcon eg
 go_wp2_with (go_at_call 69; refine HC.out.mono ?_; rintro e w' ⟨rfl, d', m, os, hp, hs, rfl⟩)
 obtain ⟨p1, p2, p3⟩ := hp
 have hd : d'.size = qs.length := by rw [p1]; simp
 have hw := sorted_world (n := m) (os := os) BG.out HN.out hd
 have e1 : (d'.extract 0 qs.length).toList = d'.toList := by rw [← hd]; simp
 have e2 : (qs.toArray.extract 0 qs.length).toList = qs := by simp
 rw [e1, e2] at p3
 have hl : d'.toList.length = qs.length := by simpa using hd
 have hpw : d'.toList.Pairwise (fun x y => ltOf cfP y x = false) := by
  rw [List.pairwise_iff_getElem]
  intro i j hi hj hij
  have h := hs i j (Nat.zero_le _) hij (by rw [hl] at hj; exact hj)
  have hi2 : i < d'.size := by simpa using hi
  have hj2 : j < d'.size := by simpa using hj
  rw [getElem!_pos d' j hj2, getElem!_pos d' i hi2] at h
  exact h
 have R := Aside0.mk (And.intro p3 (And.intro hpw hw))
 have HL := Aside0.mk hl
 clear hpw hw p1 p2 p3 hs e1 e2 hl
 rw [← HL.out]
 go_ret
 exact ⟨d'.toList, rfl, R.out.1, R.out.2.1, ⟨(by rw [HL.out]; exact HN.out), R.out.2.2.1⟩, HB.out.trans (R.out.2.2.2.2 _ HG.out), HKP.out.trans R.out.2.2.2.1 (.inl rfl)⟩
def lePc (x y : Pc) : Bool := !(Go.Proofs.ltOf cfP y x)
def piecesOf : Nat → List S24 → List Bool → List Pc
  | i, u :: us, b :: bs => (if b then addS i u.f1 u.f2 else []) ++ piecesOf (i + 1) us bs
  | _, _, _ => []
def fillR : Nat → List S24 → List Bool → List Int → List Int
  | i, u :: us, b :: bs, row => fillR (i + 1) us bs (if b then row.set i u.f1 else row)
  | _, _, _, row => row
def takeP : Int → List Pc → List Int → List Int
  | _, [], row => row
  | left, p :: l, row => takeP (left - mn left p.2.1) l (row.set p.1.toNat (rd row p.1 + mn left p.2.1))
def srtP (l : List Pc) : List Pc := l.mergeSort lePc
def risB : List S99 → Bool
  | x :: y :: l => decide (x.f1 < y.f1) && risB (y :: l)
  | _ => true
def goodU (u : S24) : Bool := decide (u.f2.length ≤ 3) && decide (0 ≤ u.f1) && decide (u.f1 ≤ 1000000000) && u.f2.all (fun s => decide (0 ≤ s.f0) && decide (s.f0 ≤ 1000000000)) && risB u.f2
def goodA (l0 : List S24) (l1 : List Bool) (left : Int) : Bool := decide (l0.length ≤ 5) && decide (l1.length = l0.length) && l0.all goodU && decide (0 ≤ left) && decide (left ≤ 100000000000)
def allocRow (l0 : List S24) (l1 : List Bool) (left : Int) : List Int := takeP left (srtP (piecesOf 0 l0 l1)) (fillR 0 l0 l1 (List.replicate l0.length 0))
theorem lePc_t (x y : Pc) : lePc x y = true ↔ ¬ (y.2.2 < x.2.2 ∨ (y.2.2 = x.2.2 ∧ x.1 < y.1)) := by
  unfold lePc
  rw [← ltP, Bool.not_eq_true', ← Bool.not_eq_true]
def Pre (x y : Pc) : Prop := x.1 < y.1 ∨ (x.1 = y.1 ∧ x.2.2 < y.2.2)
theorem ris_tail {x : S99} {l : List S99} (h : risB (x :: l) = true) : risB l = true := by
  cases l with
  | nil => rfl
  | cons y l => simp [risB] at h; exact h.2
theorem ris_lt {x : S99} : ∀ {l : List S99}, risB (x :: l) = true → ∀ s ∈ l, x.f1 < s.f1
  | [], _, s, hs => by cases hs
  | y :: l, h, s, hs => by
    simp [risB] at h
    rcases List.mem_cons.1 hs with rfl | hs
    · exact h.1
    · have := ris_lt h.2 s hs
      omega
theorem addS_mem (a : Int) : ∀ (b : Int) (l : List S99), 0 ≤ b → (∀ s ∈ l, 0 ≤ s.f0 ∧ s.f0 ≤ 1000000000) → ∀ p ∈ addS a b l, p.1 = a ∧ 0 < p.2.1 ∧ p.2.1 ≤ 1000000000 ∧ ∃ s ∈ l, p.2.2 = s.f1
  | _, [], _, _, p, hp => by cases hp
  | b, s :: l, hb, h, p, hp => by
    have hs := h s List.mem_cons_self
    have h' : ∀ x ∈ l, 0 ≤ x.f0 ∧ x.f0 ≤ 1000000000 := fun x hx => h x (List.mem_cons_of_mem _ hx)
    unfold addS at hp
    split at hp
    · rcases List.mem_cons.1 hp with rfl | hp
      · exact ⟨rfl, by simp; omega, by simp; omega, s, List.mem_cons_self, rfl⟩
      · obtain ⟨h1, h2, h3, x, hx, h4⟩ := addS_mem a 0 l (by omega) h' p hp
        exact ⟨h1, h2, h3, x, List.mem_cons_of_mem _ hx, h4⟩
    · obtain ⟨h1, h2, h3, x, hx, h4⟩ := addS_mem a (b - s.f0) l (by omega) h' p hp
      exact ⟨h1, h2, h3, x, List.mem_cons_of_mem _ hx, h4⟩
theorem addS_pre (a : Int) : ∀ (b : Int) (l : List S99), 0 ≤ b → (∀ s ∈ l, 0 ≤ s.f0 ∧ s.f0 ≤ 1000000000) → risB l = true → (addS a b l).Pairwise Pre
  | _, [], _, _, _ => List.Pairwise.nil
  | b, s :: l, hb, h, hr => by
    have h' : ∀ x ∈ l, 0 ≤ x.f0 ∧ x.f0 ≤ 1000000000 := fun x hx => h x (List.mem_cons_of_mem _ hx)
    unfold addS
    split
    · refine List.pairwise_cons.2 ⟨fun p hp => ?_, addS_pre a 0 l (by omega) h' (ris_tail hr)⟩
      obtain ⟨h1, _, _, x, hx, h4⟩ := addS_mem a 0 l (by omega) h' p hp
      exact .inr ⟨h1.symm, by rw [h4]; exact ris_lt hr x hx⟩
    · exact addS_pre a (b - s.f0) l (by omega) h' (ris_tail hr)
theorem good_u {u : S24} (h : goodU u = true) : u.f2.length ≤ 3 ∧ 0 ≤ u.f1 ∧ u.f1 ≤ 1000000000 ∧ (∀ s ∈ u.f2, 0 ≤ s.f0 ∧ s.f0 ≤ 1000000000) ∧ risB u.f2 = true := by
  simp [goodU] at h
  exact ⟨h.1.1.1.1, h.1.1.1.2, h.1.1.2, h.1.2, h.2⟩
theorem pieces_mem : ∀ (i : Nat) (us : List S24) (bs : List Bool), (∀ u ∈ us, goodU u = true) → ∀ p ∈ piecesOf i us bs, (i : Int) ≤ p.1 ∧ p.1 < i + us.length ∧ 0 < p.2.1 ∧ p.2.1 ≤ 1000000000
  | _, [], _, _, p, hp => by simp [piecesOf] at hp
  | _, _ :: _, [], _, p, hp => by simp [piecesOf] at hp
  | i, u :: us, b :: bs, h, p, hp => by
    rw [piecesOf] at hp
    have hu := good_u (h u List.mem_cons_self)
    rcases List.mem_append.1 hp with hp | hp
    · cases b with
      | false => simp at hp
      | true =>
        obtain ⟨h1, h2, h3, _⟩ := addS_mem i u.f1 u.f2 hu.2.1 hu.2.2.2.1 p hp
        rw [h1]
        exact ⟨by omega, by simp; omega, h2, h3⟩
    · obtain ⟨h1, h2, h3, h4⟩ := pieces_mem (i + 1) us bs (fun x hx => h x (List.mem_cons_of_mem _ hx)) p hp
      exact ⟨by omega, by simp; omega, h3, h4⟩
theorem pieces_pre : ∀ (i : Nat) (us : List S24) (bs : List Bool), (∀ u ∈ us, goodU u = true) → (piecesOf i us bs).Pairwise Pre
  | _, [], _, _ => by simp [piecesOf]
  | _, _ :: _, [], _ => by simp [piecesOf]
  | i, u :: us, b :: bs, h => by
    rw [piecesOf]
    have hu := good_u (h u List.mem_cons_self)
    have h' : ∀ x ∈ us, goodU x = true := fun x hx => h x (List.mem_cons_of_mem _ hx)
    refine List.pairwise_append.2 ⟨?_, pieces_pre (i + 1) us bs h', fun x hx y hy => ?_⟩
    · cases b with
      | false => exact List.Pairwise.nil
      | true => exact addS_pre i u.f1 u.f2 hu.2.1 hu.2.2.2.1 hu.2.2.2.2
    · cases b with
      | false => simp at hx
      | true =>
        obtain ⟨h1, _⟩ := addS_mem i u.f1 u.f2 hu.2.1 hu.2.2.2.1 x hx
        obtain ⟨h2, _⟩ := pieces_mem (i + 1) us bs h' y hy
        exact .inl (by omega)
theorem pre_or {l : List Pc} (h : l.Pairwise Pre) : ∀ a ∈ l, ∀ b ∈ l, a = b ∨ Pre a b ∨ Pre b a := by
  induction l with
  | nil => intro a ha; cases ha
  | cons x l ih =>
    obtain ⟨h1, h2⟩ := List.pairwise_cons.1 h
    intro a ha b hb
    rcases List.mem_cons.1 ha with e | ha2 <;> rcases List.mem_cons.1 hb with e2 | hb2
    · exact .inl (e.trans e2.symm)
    · rw [e]; exact .inr (.inl (h1 b hb2))
    · rw [e2]; exact .inr (.inr (h1 a ha2))
    · exact ih h2 a ha2 b hb2
theorem lePc_total (a b : Pc) : (lePc a b || lePc b a) = true := by
  by_cases h : lePc a b = true
  · simp [h]
  · have h2 : lePc b a = true := by rw [lePc_t] at *; omega
    simp [h2]
theorem srt_unique {ps rs : List Pc} (h : ps.Pairwise Pre) (hp : rs.Perm ps) (hw : rs.Pairwise (fun x y => Go.Proofs.ltOf cfP y x = false)) : rs = srtP ps := by
  have hs : (srtP ps).Pairwise (fun x y => lePc x y = true) := List.pairwise_mergeSort (by intro a b c h1 h2; rw [lePc_t] at *; omega) lePc_total ps
  have hq : (srtP ps).Perm ps := List.mergeSort_perm ps lePc
  have hw2 : rs.Pairwise (fun x y => lePc x y = true) := hw.imp (fun {a b} h => by unfold lePc; rw [h]; rfl)
  refine List.Perm.eq_of_pairwise (le := fun x y => lePc x y = true) ?_ hw2 hs (hp.trans hq.symm)
  intro a b ha hb h1 h2
  rw [lePc_t] at h1 h2
  rcases pre_or h a (hp.mem_iff.1 ha) b (hq.mem_iff.1 hb) with h | h | h
  · exact h
  · unfold Pre at h; omega
  · unfold Pre at h; omega
theorem info2 : (Try.prog.info? 2).map (fun i => (i.zero, i.size, i.bytes)) = some (some (.int .i64 0), 1, 8) := by kernel_rfl
def exU : List S24 := [⟨0, 2, [⟨5, 1⟩, ⟨4, 3⟩], 1, 1, 0, 0, 0, 1⟩, ⟨0, 0, [⟨3, 2⟩, ⟨3, 3⟩], 1, 1, 0, 0, 0, 1⟩]
def pylonlaw28_ex.f : Option (List S24) := some exU
theorem two_steps {w : World} {g : Nat} {a b c d : Int} (h : w.heap[g]? = some (.cells #[.int .i64 a, .int .i64 b, .int .i64 c, .int .i64 d] 99 (0, 0))) : Kd.C k99 w (some ⟨g, 0, none⟩) 2 [⟨a, b⟩, ⟨c, d⟩] := by
 refine ⟨rfl, (by decide), fun _ => ⟨_, rfl, fun j p hp => ?_⟩⟩
 match j, hp with
 | 0, hp =>
  obtain rfl := Option.some.inj hp
  refine ⟨[.int .i64 a, .int .i64 b], rfl, k99_mk w _, fun i u hu => ?_⟩
  match i, hu with
  | 0, hu => obtain rfl := Option.some.inj hu; exact blk_cell h 0
  | 1, hu => obtain rfl := Option.some.inj hu; exact blk_cell h 1
 | 1, hp =>
  obtain rfl := Option.some.inj hp
  refine ⟨[.int .i64 c, .int .i64 d], rfl, k99_mk w _, fun i u hu => ?_⟩
  match i, hu with
  | 0, hu => obtain rfl := Option.some.inj hu; exact blk_cell h 2
  | 1, hu => obtain rfl := Option.some.inj hu; exact blk_cell h 3
 | j + 2, hp => cases hp
def exL (g1 g2 : Nat) : Array Value := #[.int .i64 0, .int .i64 2, .slice (some ⟨g1, 0, none⟩) 2 2, .int .i64 1, .int .i64 1, .int .i64 0, .int .i64 0, .int .i64 0, .int .i64 1, .int .i64 0, .int .i64 0, .slice (some ⟨g2, 0, none⟩) 2 2, .int .i64 1, .int .i64 1, .int .i64 0, .int .i64 0, .int .i64 0, .int .i64 1]
theorem two_units {w : World} {g1 g2 g : Nat} (h1 : w.heap[g1]? = some (.cells #[.int .i64 5, .int .i64 1, .int .i64 4, .int .i64 3] 99 (0, 0))) (h2 : w.heap[g2]? = some (.cells #[.int .i64 3, .int .i64 2, .int .i64 3, .int .i64 3] 99 (0, 0))) (h : w.heap[g]? = some (.cells (exL g1 g2) 24 (0, 0))) : Kd.C k24 w (some ⟨g, 0, none⟩) 2 exU := by
 refine ⟨rfl, (by decide), fun _ => ⟨_, rfl, fun j p hp => ?_⟩⟩
 match j, hp with
 | 0, hp =>
  obtain rfl := Option.some.inj hp
  refine ⟨_, rfl, k24_mk w _ (A2 := some ⟨g1, 0, none⟩) (c2 := 2) (Nat.le_refl _) (two_steps h1), fun i u hu => ?_⟩
  match i, hu with
  | 0, hu => obtain rfl := Option.some.inj hu; exact blk_cell h 0
  | 1, hu => obtain rfl := Option.some.inj hu; exact blk_cell h 1
  | 2, hu => obtain rfl := Option.some.inj hu; exact blk_cell h 2
  | 3, hu => obtain rfl := Option.some.inj hu; exact blk_cell h 3
  | 4, hu => obtain rfl := Option.some.inj hu; exact blk_cell h 4
  | 5, hu => obtain rfl := Option.some.inj hu; exact blk_cell h 5
  | 6, hu => obtain rfl := Option.some.inj hu; exact blk_cell h 6
  | 7, hu => obtain rfl := Option.some.inj hu; exact blk_cell h 7
  | 8, hu => obtain rfl := Option.some.inj hu; exact blk_cell h 8
 | 1, hp =>
  obtain rfl := Option.some.inj hp
  refine ⟨_, rfl, k24_mk w _ (A2 := some ⟨g2, 0, none⟩) (c2 := 2) (Nat.le_refl _) (two_steps h2), fun i u hu => ?_⟩
  match i, hu with
  | 0, hu => obtain rfl := Option.some.inj hu; exact blk_cell h 9
  | 1, hu => obtain rfl := Option.some.inj hu; exact blk_cell h 10
  | 2, hu => obtain rfl := Option.some.inj hu; exact blk_cell h 11
  | 3, hu => obtain rfl := Option.some.inj hu; exact blk_cell h 12
  | 4, hu => obtain rfl := Option.some.inj hu; exact blk_cell h 13
  | 5, hu => obtain rfl := Option.some.inj hu; exact blk_cell h 14
  | 6, hu => obtain rfl := Option.some.inj hu; exact blk_cell h 15
  | 7, hu => obtain rfl := Option.some.inj hu; exact blk_cell h 16
  | 8, hu => obtain rfl := Option.some.inj hu; exact blk_cell h 17
 | j + 2, hp => cases hp
theorem five {w : World} (o1 o2 o3 o4 o5 : Obj) : (((((w.alloc o1).alloc o2).alloc o3).alloc o4).alloc o5).heap[w.heap.size]? = some o1 ∧ (((((w.alloc o1).alloc o2).alloc o3).alloc o4).alloc o5).heap[w.heap.size + 1 + 1]? = some o3 ∧ (((((w.alloc o1).alloc o2).alloc o3).alloc o4).alloc o5).heap[w.heap.size + 1 + 1 + 1 + 1]? = some o5 ∧ Below w.heap.size w (((((w.alloc o1).alloc o2).alloc o3).alloc o4).alloc o5) := by
 have s1 : (w.alloc o1).heap.size = w.heap.size + 1 := by simp
 have s2 : ((w.alloc o1).alloc o2).heap.size = w.heap.size + 1 + 1 := by simp
 have s3 : (((w.alloc o1).alloc o2).alloc o3).heap.size = w.heap.size + 1 + 1 + 1 := by simp
 have s4 : ((((w.alloc o1).alloc o2).alloc o3).alloc o4).heap.size = w.heap.size + 1 + 1 + 1 + 1 := by simp
 have a1 := (MapKept.heap_alloc w o1).1
 have a3 := (MapKept.heap_alloc ((w.alloc o1).alloc o2) o3).1
 have a5 := (MapKept.heap_alloc ((((w.alloc o1).alloc o2).alloc o3).alloc o4) o5).1
 rw [s2] at a3
 rw [s4] at a5
 refine ⟨?_, ?_, a5, ((((((Below.refl _ w).alloc (Nat.le_refl _) _).alloc (by omega) _).alloc (by omega) _).alloc (by omega) _).alloc (by omega) _)⟩
 ·rw [Below.heap_alloc _ _ _ (by omega), Below.heap_alloc _ _ _ (by omega), Below.heap_alloc _ _ _ (by omega), Below.heap_alloc _ _ _ (by omega)]
  exact a1
 ·rw [Below.heap_alloc _ _ _ (by omega), Below.heap_alloc _ _ _ (by omega)]
  exact a3
set_option maxHeartbeats 8000000 in
set_option maxRecDepth 100000 in
theorem pylonlaw28_ex.calls (r : List S24) (w : World) (h : pylonlaw28_ex.f = some r) :
  Calls Try.prog 51 #[] w fun e w' => ∃ v0_ : Value, e = .returned v0_ ∧ Kd.V k24 24 w' w.heap.size (fun k_ => (w.heap.size ≤ k_)) v0_ r ∧ Below w.heap.size w w' := by
 obtain rfl := Option.some.inj h
 clear h
 have hu24 := Try.underlying24
 have hu99 := Try.underlying99
 have hu22 := Try.underlying22
 have hu45 := Try.underlying45
 go_enter Try.func51, Try.ntmps51
 go_wp2_with fail
 go_ret
 obtain ⟨h1, h2, h3, h4⟩ := five (w := w) (.cells #[.int .i64 5, .int .i64 1, .int .i64 4, .int .i64 3] 99 (0, 0)) (.cells #[.int .i64 0, .int .i64 2, .slice (some ⟨w.heap.size, 0, none⟩) 2 2, .int .i64 1, .int .i64 1, .int .i64 0, .int .i64 0, .int .i64 0, .int .i64 1] 24 (0, 0)) (.cells #[.int .i64 3, .int .i64 2, .int .i64 3, .int .i64 3] 99 (0, 0)) (.cells #[.int .i64 0, .int .i64 0, .slice (some ⟨w.heap.size + 1 + 1, 0, none⟩) 2 2, .int .i64 1, .int .i64 1, .int .i64 0, .int .i64 0, .int .i64 0, .int .i64 1] 24 (0, 0)) (.cells (exL w.heap.size (w.heap.size + 1 + 1)) 24 (0, 0))
 refine ⟨_, rfl, Kd.V_mk (xs := exU) (Nat.le_refl _) (fun W' hW => ?_), h4⟩
 have l1 := blk_lt h1
 have l2 := blk_lt h2
 have l3 := blk_lt h3
 exact two_units ((hW _ (Nat.le_refl _) l1).trans h1) ((hW _ (by omega) l2).trans h2) ((hW _ (by omega) l3).trans h3)
end Go.Proofs.Ytelklgdmhnkenaa.U
namespace Go.Proofs.Ytelklgdmhnkenaa.U
attribute [local go_sem] max2_int min2_int max_two min_two max_three min_three max_four min_four
def energy_Allocate.f (k : Nat) (l0 : List S24) (l1 : List Bool) (a2 : Int) : Option (List Int × Int) := (energy_Range.f k l0 l1).bind fun bt =>
 if bt.2.2 = 0 then (if a2 < 0 then some ([], 1) else if a2 < bt.1 then some ([], 8) else if a2 > bt.2.1 then some ([], 8) else
  (if goodA l0 l1 (wrap64 (a2 - bt.1)) = true then some (allocRow l0 l1 (wrap64 (a2 - bt.1)), 0) else none)) else some ([], bt.2.2)
theorem drop24 {l0 : List S24} {j : Nat} (h : j < l0.length) : l0.drop j = rd_T24 l0 (j : Int) :: l0.drop (j + 1) := by
 rw [List.drop_eq_getElem_cons h]
 simp [rd_T24, h]
theorem dropB {l1 : List Bool} {j : Nat} (h : j < l1.length) : l1.drop j = rdOf false l1 (j : Int) :: l1.drop (j + 1) := by
 rw [List.drop_eq_getElem_cons h]
 simp [rdOf, h]
theorem fill_step {l0 : List S24} {l1 : List Bool} {j : Nat} {row : List Int} (h : j < l0.length) (h1 : j < l1.length) : fillR j (l0.drop j) (l1.drop j) row = fillR (j + 1) (l0.drop (j + 1)) (l1.drop (j + 1)) (if rdOf false l1 (j : Int) then row.set j (rd_T24 l0 (j : Int)).f1 else row) := by
 rw [drop24 h, dropB h1]
 rfl
theorem pieces_step {l0 : List S24} {l1 : List Bool} {j : Nat} (h : j < l0.length) (h1 : j < l1.length) : piecesOf j (l0.drop j) (l1.drop j) = (if rdOf false l1 (j : Int) then addS j (rd_T24 l0 (j : Int)).f1 (rd_T24 l0 (j : Int)).f2 else []) ++ piecesOf (j + 1) (l0.drop (j + 1)) (l1.drop (j + 1)) := by
 rw [drop24 h, dropB h1]
 rfl
theorem addS_len (a : Int) : ∀ (b : Int) (l : List S99), (addS a b l).length ≤ l.length
 | _, [] => Nat.le_refl _
 | b, s :: l => by
  unfold addS
  split
  ·have := addS_len a 0 l
   simp
   omega
  ·have := addS_len a (b - s.f0) l
   simp
   omega
theorem good_all {l0 : List S24} {l1 : List Bool} {left : Int} (h : goodA l0 l1 left = true) : (∀ u ∈ l0, goodU u = true) ∧ 0 ≤ left ∧ left ≤ 100000000000 := by
 simp [goodA] at h
 exact ⟨h.1.1.2, h.1.2, h.2⟩
theorem fill_bnd : ∀ (i : Nat) (us : List S24) (bs : List Bool) (row : List Int), (∀ u ∈ us, goodU u = true) → (∀ x ∈ row, 0 ≤ x ∧ x ≤ 1000000000) → ∀ x ∈ fillR i us bs row, 0 ≤ x ∧ x ≤ 1000000000
 | _, [], _, row, _, h => by simpa [fillR] using h
 | _, _ :: _, [], row, _, h => by simpa [fillR] using h
 | i, u :: us, b :: bs, row, hg, h => by
  rw [fillR]
  have hu := good_u (hg u List.mem_cons_self)
  refine fill_bnd (i + 1) us bs _ (fun x hx => hg x (List.mem_cons_of_mem _ hx)) ?_
  cases b with
  | false => exact h
  | true =>
   intro x hx
   rcases List.mem_or_eq_of_mem_set hx with hx | rfl
   ·exact h x hx
   ·exact ⟨hu.2.1, hu.2.2.1⟩
theorem rd_rdOf (l : List Int) (i : Int) : rd l i = rdOf 0 l i := rfl
theorem rd_bnd {l : List Int} {i : Int} {B : Int} (h : ∀ x ∈ l, 0 ≤ x ∧ x ≤ B) (h0 : 0 ≤ i) (h1 : i < (l.length : Int)) : 0 ≤ rdOf 0 l i ∧ rdOf 0 l i ≤ B := by
 have hl : i.toNat < l.length := by omega
 have e : rdOf 0 l i = l[i.toNat] := by simp [rdOf, hl]
 rw [e]
 exact h _ (List.getElem_mem hl)
theorem piece_cell {w : World} {g j : Nat} {rs : List Pc} {p : Pc} (h : PB w g rs) (hj : j < rs.length) (hp : rs.getD j z84 = p) (i : Nat) (hi : i < 3) : w.cell? ⟨g, j * 3 + i, none⟩ = (pcell p)[i]? := by
 rw [blk_cell h.2, List.getElem?_toArray, cellsP_lo (by omega), show (j * 3 + i) / 3 = j by omega, show (j * 3 + i) % 3 = i by omega, hp]
theorem good_at {l0 : List S24} {l1 : List Bool} {left : Int} (h : goodA l0 l1 left = true) (j : Nat) (hj : j < l0.length) : l1.length = l0.length ∧ (rd_T24 l0 (j : Int)).f2.length ≤ 3 ∧ okS (rd_T24 l0 (j : Int)).f1 (rd_T24 l0 (j : Int)).f2 := by
 simp [goodA] at h
 obtain ⟨⟨⟨⟨h1, h2⟩, h3⟩, h4⟩, h5⟩ := h
 have e : rd_T24 l0 (j : Int) = l0[j] := by simp [rd_T24, hj]
 have h6 := h3 l0[j] (List.getElem_mem hj)
 simp [goodU] at h6
 rw [e]
 exact ⟨h2, (by omega), (by omega), (by omega), fun s hs => by have := h6.1.2 s hs; omega⟩
set_option maxHeartbeats 8000000 in
set_option maxRecDepth 100000 in
theorem alloc_main (k : Nat) (A0 : Option Addr) (c0 : Nat) (l0 : List (S24)) (A1 : Option Addr) (c1 : Nat) (l1 : List Bool) (a2 least most : Int) (w : World) (hr0 : Kd.C k24 w A0 l0.length l0) (hc0 : l0.length ≤ c0) (hr1 : Kd.C Kd.bool w A1 l1.length l1) (hc1 : l1.length ≤ c1) (hr : energy_Range.f k l0 l1 = some (least, most, 0)) (h1 : ¬ a2 < 0) (h2 : ¬ a2 < least) (h3 : ¬ a2 > most) (hg : goodA l0 l1 (wrap64 (a2 - least)) = true) :
  Calls Try.prog 32 #[.slice A0 l0.length c0, .slice A1 l1.length c1, .int .i64 a2] w fun e w' => ∃ v0_ : Value, e = .returned (.tuple #[v0_, .int .i64 0]) ∧ Kd.R (Kd.int .i64) 2 w' w.heap.size (fun _ => True) v0_ (allocRow l0 l1 (wrap64 (a2 - least))) ∧ Below w.heap.size w w' := by
 have HR0 := Aside0.mk hr0
 have HC0 := Aside0.mk hc0
 have HR1 := Aside0.mk hr1
 have HC1 := Aside0.mk hc1
 have HRG := Aside0.mk hr
 have HGD := Aside0.mk hg
 have HB := Aside0.mk (Below.refl w.heap.size w)
 have hu24 := Try.underlying24
 have hu87 := Try.underlying87
 have hu84 := Try.underlying84
 clear hr0 hc0 hr1 hc1 hr hg
 have b1 : decide (a2 < 0) = false := decide_eq_false h1
 have b2 : decide (a2 < least) = false := decide_eq_false h2
 have b3 : decide (a2 > most) = false := decide_eq_false h3
 have b3' : decide (most < a2) = false := decide_eq_false h3
 have e1 := eq_false h1
 have e2 := eq_false h2
 have e3 : (most < a2) = False := eq_false h3
 clear h1 h2 h3
 obtain ⟨left, hl⟩ : ∃ x, x = wrap64 (a2 - least) := ⟨_, rfl⟩
 rw [← hl] at HGD ⊢
 replace hl := hl.symm
 have hn : (l0.length : Int) ≤ 5 := by
  have h := HGD.out
  simp [goodA] at h
  omega
 have hn5 : l0.length ≤ 5 := by omega
 have HN := Aside0.mk hn5
 clear hn hn5
 go_enter Try.func32, Try.ntmps32
 go_wp2_with (first | ((with_reducible refine gate_callee (f := 52) rfl ?_); refine goesL_ (some 22) rfl rfl Try.func52 m_13 rfl #[.slice A0 l0.length c0, .slice A1 l1.length c1] rfl m_23 ?_; (with_reducible refine (energy_Range.calls k _ _ l0 _ _ l1 least most 0 _ HR0.out HC0.out HR1.out HC1.out HRG.out).mono ?_); rintro e w1 ⟨rfl, hb⟩; refine ⟨_, rfl, ?_⟩; replace HB := Aside0.mk (below_step HB.out hb); clear hb) | ((with_reducible refine gate_dst (N := 44) rfl ?_); refine Kd.R_make (Kd.int .i64) _ 2 rfl (N := 44) rfl 46 _ _ rfl (l0.length : Int) rfl rfl Try.underlying46 (.int .i64 0) 8 info2 rfl (by decide) (by omega) 0 (ok := fun _ => True) (okp := fun _ => True) rfl (fun _ hk => hk) trivial (by omega) (by have := HN.out; omega) (Below.refl _ _) (Nat.le_refl _) ?_; intro vr w2 ho hb hg_ hnew_; clear hg_ hnew_; rw [Int.toNat_natCast] at ho; have HO := Aside0.mk (Kd.R_lower ho (below_size HB.out)); replace HB := Aside0.mk (below_step HB.out hb); clear hb ho) | ((with_reducible refine gate_dst (N := 46) rfl ?_); refine box_event ?hg (N := 46) ?hd (cs := (cellsP []).toArray) (t := 87) ?hr ?_; (case hd => rfl); (case hg => rfl); (case hr => exact hr_); intro gp hg w3 hbox hb; have HGP := Aside0.mk (show w.heap.size ≤ gp by rw [hg]; exact below_size HB.out); replace HO := Aside0.mk (Kd.R_below HO.out hb); replace HB := Aside0.mk (below_step HB.out hb); have HPB := Aside0.mk hbox; clear hb hbox hg))
 go_loopg [49] l0.length (fun kq v49 wc => ∃ (j : Nat) (row : List Int) (ps : List Pc), v49 = .int .i64 j ∧ Aside0 (kq + j = l0.length) ∧ Aside0 (fillR 0 l0 l1 (List.replicate l0.length 0) = fillR j (l0.drop j) (l1.drop j) row ∧ row.length = l0.length) ∧ Aside0 (piecesOf 0 l0 l1 = ps ++ piecesOf j (l0.drop j) (l1.drop j) ∧ ps.length ≤ 3 * j) ∧ Aside0 (Kd.R (Kd.int .i64) 2 wc w.heap.size (fun _ => True) vr row) ∧ Aside0 (PB wc gp ps) ∧ Aside0 (Below w.heap.size w wc))
 case atStart =>
  exact ⟨0, List.replicate l0.length 0, [], rfl, ⟨rfl⟩, ⟨(by rw [List.drop_zero, List.drop_zero]), (by simp)⟩, ⟨(by rw [List.drop_zero, List.drop_zero, List.nil_append]), (by simp)⟩, ⟨HO.out⟩, ⟨(by simp), HPB.out⟩, ⟨HB.out⟩⟩
 case round =>
  clear HO HPB HB
  obtain ⟨j, row, ps, rfl, HJ, HF, HQ, HO, HPB, HB⟩ := hrel
  by_cases hj : j < l0.length
  ·obtain ⟨k1, rfl⟩ : ∃ k1, gk = k1 + 1 := ⟨gk - 1, m_145⟩
   have hG := good_at HGD.out j hj
   have hp : 0 ≤ (j : Int) := by omega
   have hq : (j : Int) < (l0.length : Int) := by omega
   have hq1 : (j : Int) < (l1.length : Int) := by have := hG.1; omega
   obtain ⟨ad, A2, c2, e1, x0, x1, x2, x3, x4, x5, x6, x7, x8, hl2, hi2⟩ := at_T24 HR0.out (j : Int) hp hq
   subst e1
   obtain ⟨ad1, e2, y0⟩ := Kd.at_bool HR1.out (j : Int) hp hq1
   subst e2
   replace x0 := mv_ HB x0
   replace x1 := mv_ HB x1
   replace x2 := mv_ HB x2
   replace x3 := mv_ HB x3
   replace x4 := mv_ HB x4
   replace x5 := mv_ HB x5
   replace x6 := mv_ HB x6
   replace x7 := mv_ HB x7
   replace x8 := mv_ HB x8
   have HY := Aside0.mk (And.intro (World.block_lt_of_cell? w _ y0) y0)
   clear y0
   obtain ⟨u, hu⟩ : ∃ u, u = rd_T24 l0 (j : Int) := ⟨_, rfl⟩
   rw [← hu] at x0 x1 x2 x3 x4 x5 x6 x7 x8 hl2 hi2
   rw [Int.toNat_natCast] at x0 x1 x2 x3 x4 x5 x6 x7 x8
   obtain ⟨b, hb⟩ : ∃ b, b = rdOf false l1 (j : Int) := ⟨_, rfl⟩
   have HU := Aside0.mk (And.intro hu (And.intro hb (And.intro hl2 hi2)))
   have HGJ := Aside0.mk hG
   clear hu hl2 hi2 hG hb
   have qj : decide ((j : Int) < (l0.length : Int)) = true := decide_eq_true hq
   have qj2 : decide (j < l0.length) = true := decide_eq_true hj
   have qj3 : decide ((j : Int) < (l1.length : Int)) = true := decide_eq_true hq1
   have qj4 : decide (j < l1.length) = true := decide_eq_true (by omega)
   replace hq1 := eq_true hq1
   replace hq := eq_true hq
   replace hp := eq_true hp
   have wj : wrap64 ((j : Int) + 1) = ((j + 1 : Nat) : Int) := by have h1 := HN.out; exact (wrap64_id (by omega) (by omega)).trans (by omega)
   have HJ2 := Aside0.mk hj
   clear hj
   go_upto_region 13 with (fail)
   refine wp_gen (F := fun Wk => Wk.heap[wr.heap.size]? = some (.cells #[.int .i64 u.f0, .int .i64 u.f1, .slice A2 u.f2.length c2, .int .i64 u.f3, .int .i64 u.f4, .int .i64 u.f5, .int .i64 u.f6, .int .i64 u.f7, .int .i64 u.f8] 24 (0, 0)) ∧ Below wr.heap.size wr Wk) ⟨blk_new _ _, below_alloc (Below.refl wr.heap.size wr) _⟩ ?_
   rintro Wk ⟨m0, m1⟩
   obtain ⟨gb, hgb⟩ : ∃ gb, gb = wr.heap.size := ⟨_, rfl⟩
   have hgw : w.heap.size ≤ gb := by have := HB.out.size; omega
   rw [← hgb] at m0 ⊢
   have BB := Aside0.mk m0
   replace HO := Aside0.mk (Kd.R_below HO.out m1)
   replace HPB := Aside0.mk (show PB Wk gp ps from ⟨HPB.out.1, any_below HPB.out.2 m1⟩)
   have y0 : Wk.cell? (ad1.add j) = some (.bool b) := by
    have h := HY.out
    rw [Int.toNat_natCast, ← HU.out.2.1] at h
    exact (m1.cell (p := ad1.add j) (by have := HB.out.size; omega)).trans ((HB.out.cell (p := ad1.add j) h.1).trans h.2)
   replace HB := Aside0.mk (below_step HB.out m1)
   have HGW := Aside0.mk hgw
   clear m0 m1 hgb hgw x0 x1 x2 x3 x4 x5 x6 x7 x8
   have hz0 : Wk.cell? ⟨gb, 0, none⟩ = some (.int .i64 u.f0) := (blk_cell BB.out 0).trans rfl
   have hz1 : Wk.cell? ⟨gb, 1, none⟩ = some (.int .i64 u.f1) := (blk_cell BB.out 1).trans rfl
   have hz2 : Wk.cell? ⟨gb, 2, none⟩ = some (.slice A2 u.f2.length c2) := (blk_cell BB.out 2).trans rfl
   have hz3 : Wk.cell? ⟨gb, 3, none⟩ = some (.int .i64 u.f3) := (blk_cell BB.out 3).trans rfl
   have hz4 : Wk.cell? ⟨gb, 4, none⟩ = some (.int .i64 u.f4) := (blk_cell BB.out 4).trans rfl
   have hz5 : Wk.cell? ⟨gb, 5, none⟩ = some (.int .i64 u.f5) := (blk_cell BB.out 5).trans rfl
   have hz6 : Wk.cell? ⟨gb, 6, none⟩ = some (.int .i64 u.f6) := (blk_cell BB.out 6).trans rfl
   have hz7 : Wk.cell? ⟨gb, 7, none⟩ = some (.int .i64 u.f7) := (blk_cell BB.out 7).trans rfl
   have hz8 : Wk.cell? ⟨gb, 8, none⟩ = some (.int .i64 u.f8) := (blk_cell BB.out 8).trans rfl
   obtain ⟨go, co, eo, gbo, glo, clo, hgo⟩ := Kd.R_form HO.out (by have := HF.out.2; have := HJ2.out; omega)
   rw [HF.out.2] at eo
   subst eo
   have hrl := HF.out.2
   obtain ⟨hx, hf⟩ := Kd.R_celln 0 HO.out (j : Int) (by omega) (by have := HJ2.out; omega)
   rw [Int.toNat_natCast] at hx hf
   have hne : gb ≠ go := blk_ne BB.out hgo (by decide)
   have hne2 : go ≠ gb := Ne.symm hne
   have hne3 : gp ≠ go := blk_ne HPB.out.2 hgo (by decide)
   have HNE := Aside0.mk hne3
   have HGO := Aside0.mk gbo
   have HGT := Aside0.mk hgo
   clear hne3 gbo glo hgo hrl
   cases b with
   | true =>
    go_wp2_with ((with_reducible refine gate_callee (f := 55) rfl ?_); refine stopHere ?_)
    intro _
    have hO2 := Kd.R_putn HO.out (j : Int) u.f1
    rw [Int.toNat_natCast] at hO2
    have hP2 : PB (Wk.setCell ⟨go, j, none⟩ (.int .i64 u.f1)) gp ps := ⟨HPB.out.1, blk_far HPB.out.2 HNE.out _⟩
    have hB2 : Below w.heap.size w (Wk.setCell ⟨go, j, none⟩ (.int .i64 u.f1)) := below_set HB.out HGO.out
    have hG2 := HGJ.out
    rw [← HU.out.1] at hG2
    have hl5 : ps.length + u.f2.length ≤ 15 := by have h1 := HQ.out.2; have h2 := HN.out; have h3 := HJ2.out; have h4 := hG2.2.1; omega
    have HO2 := Aside0.mk hO2
    have HP2 := Aside0.mk hP2
    have HB2 := Aside0.mk hB2
    have HL5 := Aside0.mk hl5
    have HK5 := Aside0.mk hG2.2.2
    clear hO2 hP2 hB2 hl5 hG2
    refine goesL_ (some 66) rfl rfl Try.func55 m_13 rfl #[.pointer (some ⟨gp, 0, none⟩), .int .i64 (j : Int), .agg #[.int .i64 u.f0, .int .i64 u.f1, .slice A2 u.f2.length c2, .int .i64 u.f3, .int .i64 u.f4, .int .i64 u.f5, .int .i64 u.f6, .int .i64 u.f7, .int .i64 u.f8]] rfl m_23 ?_
    refine (pieces_add_calls w gp (j : Int) u.f0 u.f1 u.f3 u.f4 u.f5 u.f6 u.f7 u.f8 A2 c2 u.f2 ps _ HB2.out HGP.out HP2.out HU.out.2.2.2 HL5.out HK5.out).mono ?_
    rintro e w5 ⟨rfl, hp5, hb5, hk5⟩
    refine ⟨_, rfl, ?_⟩
    have HO3 := Aside0.mk (Kd.R_mono (Kd.R_keep (Kd.R_types HO2.out HP2.out.2 (by decide)) hk5 (fun _ hk => hk.2)) (fun _ _ => (trivial : True)))
    have HP3 := Aside0.mk hp5
    have HB3 := Aside0.mk hb5
    clear hp5 hb5 hk5
    go_wp2_with fail
    go_roundg k1
    case measure => omega
    case rel =>
     have hjl := HJ2.out
     have hjl1 : j < l1.length := by have := HGJ.out.1; omega
     refine ⟨j + 1, row.set j u.f1, ps ++ addS j u.f1 u.f2, m_134, ⟨m_145⟩, ⟨?_, (by rw [List.length_set]; exact HF.out.2)⟩, ⟨?_, ?_⟩, HO3, HP3, HB3⟩
     ·rw [HF.out.1, fill_step hjl hjl1, ← HU.out.1, ← HU.out.2.1]
      rfl
     ·rw [HQ.out.1, pieces_step hjl hjl1, ← HU.out.1, ← HU.out.2.1, List.append_assoc]
      rfl
     ·have h1 := addS_len (j : Int) u.f1 u.f2
      have h2 := HGJ.out.2.1
      rw [← HU.out.1] at h2
      have h3 := HQ.out.2
      rw [List.length_append]
      omega
   | false =>
    go_wp2_with fail
    go_roundg k1
    case measure => omega
    case rel =>
     have hjl := HJ2.out
     have hjl1 : j < l1.length := by have := HGJ.out.1; omega
     refine ⟨j + 1, row, ps, m_134, ⟨m_145⟩, ⟨?_, HF.out.2⟩, ⟨?_, (by have h3 := HQ.out.2; omega)⟩, HO, HPB, HB⟩
     ·rw [HF.out.1, fill_step hjl hjl1, ← HU.out.2.1]
      rfl
     ·rw [HQ.out.1, pieces_step hjl hjl1, ← HU.out.2.1]
      rfl
  ·have hz : l0.drop j = [] := List.drop_eq_nil_of_le (by omega)
   have qj : decide ((j : Int) < (l0.length : Int)) = false := decide_eq_false (by omega)
   have qj2 : decide (j < l0.length) = false := decide_eq_false hj
   have qj3 : ((j : Int) < (l0.length : Int)) = False := eq_false (by omega)
   have qj4 : (j < l0.length) = False := eq_false hj
   have hf0 : fillR 0 l0 l1 (List.replicate l0.length 0) = row := by
    rw [HF.out.1, hz]
    rfl
   have hq0 : piecesOf 0 l0 l1 = ps := by
    rw [HQ.out.1, hz]
    exact List.append_nil ps
   have HF0 := Aside0.mk (And.intro hf0 HF.out.2)
   have HQ0 := Aside0.mk hq0
   clear hz hj hf0 hq0
   have hall := good_all HGD.out
   have hpre := pieces_pre 0 l0 l1 hall.1
   have hmem := pieces_mem 0 l0 l1 hall.1
   rw [HQ0.out] at hpre hmem
   have HPRE := Aside0.mk hpre
   have HMEM := Aside0.mk hmem
   have HLF := Aside0.mk hall.2
   have HRB := Aside0.mk (show ∀ x ∈ row, 0 ≤ x ∧ x ≤ 1000000000 from by
    rw [← HF0.out.1]
    exact fill_bnd 0 l0 l1 _ hall.1 (by intro x hx; rw [List.mem_replicate] at hx; omega))
   clear hall hpre hmem
   go_wp2_with ((with_reducible refine gate_callee (f := 56) rfl ?_); refine goesL_ (some 72) rfl rfl Try.func56 m_13 rfl #[.pointer (some ⟨gp, 0, none⟩)] rfl m_23 ?_; refine (pieces_row_calls w gp ps _ HB.out HGP.out HPB.out).mono ?_; rintro e w5 ⟨rs, rfl, hperm, hpw, hp5, hb5, hk5⟩; refine ⟨_, rfl, ?_⟩; have HO3 := Aside0.mk (Kd.R_mono (Kd.R_keep (Kd.R_types HO.out HPB.out.2 (by decide)) hk5 (fun _ hk => hk.2)) (fun _ _ => (trivial : True))); have HRS := Aside0.mk (And.intro (srt_unique HPRE.out hperm hpw) hperm); have HP3 := Aside0.mk hp5; have HB3 := Aside0.mk hb5; clear hperm hpw hp5 hb5 hk5)
   go_loopg [15, 74] rs.length (fun kq v15 v74 wc => ∃ (lf : Int) (j : Nat) (row2 : List Int), v15 = .int .i64 lf ∧ v74 = .int .i64 j ∧ Aside0 (kq + j = rs.length) ∧ Aside0 (takeP left rs row = takeP lf (rs.drop j) row2 ∧ row2.length = l0.length) ∧ Aside0 ((0 ≤ lf ∧ lf ≤ 100000000000) ∧ ∀ x ∈ row2, 0 ≤ x ∧ x ≤ 1000000000 * (1 + (j : Int))) ∧ Aside0 (Kd.R (Kd.int .i64) 2 wc w.heap.size (fun _ => True) vr row2) ∧ Aside0 (PB wc gp rs) ∧ Aside0 (Below w.heap.size w wc))
   case atStart =>
    exact ⟨left, 0, row, (by first | rfl | rw [hl]), rfl, ⟨rfl⟩, ⟨(by rw [List.drop_zero]), HF0.out.2⟩, ⟨HLF.out, fun x hx => by have := HRB.out x hx; omega⟩, HO3, HP3, HB3⟩
   case round =>
    clear HO3 HP3 HB3 HO HPB HB
    obtain ⟨lf, j2, row2, rfl, rfl, HJ3, HT, HLB, HO, HPB, HB⟩ := hrel
    by_cases hj3 : j2 < rs.length
    ·obtain ⟨k1, rfl⟩ : ∃ k1, gk = k1 + 1 := ⟨gk - 1, (by have := HJ3.out; omega)⟩
     obtain ⟨p, hp⟩ : ∃ p, p = rs[j2] := ⟨_, rfl⟩
     have hdr : rs.drop j2 = p :: rs.drop (j2 + 1) := by rw [hp]; exact List.drop_eq_getElem_cons hj3
     have hpm := HMEM.out p (HRS.out.2.mem_iff.1 (by rw [hp]; exact List.getElem_mem hj3))
     have hpd : rs.getD j2 z84 = p := by rw [hp]; simp [hj3]
     have hpm2 : 0 ≤ p.1 ∧ p.1 < (l0.length : Int) ∧ 0 < p.2.1 ∧ p.2.1 ≤ 1000000000 := ⟨(by omega), (by omega), hpm.2.2.1, hpm.2.2.2⟩
     have HPM := Aside0.mk hpm2
     have HDR := Aside0.mk hdr
     have c0 : wr.cell? ⟨gp, j2 * 3, none⟩ = some (.int .i64 p.1) := piece_cell HPB.out hj3 hpd 0 (by omega)
     have c1 : wr.cell? ⟨gp, j2 * 3 + 1, none⟩ = some (.int .i64 p.2.1) := piece_cell HPB.out hj3 hpd 1 (by omega)
     have c2 : wr.cell? ⟨gp, j2 * 3 + 2, none⟩ = some (.int .i64 p.2.2) := piece_cell HPB.out hj3 hpd 2 (by omega)
     clear hp hdr hpm hpd
     have q1 : (0 ≤ (j2 : Int)) = True := eq_true (by omega)
     have q2 : ((j2 : Int) < (rs.length : Int)) = True := eq_true (by omega)
     have q3 : decide ((j2 : Int) < (rs.length : Int)) = true := decide_eq_true (by omega)
     have q4 : decide (j2 < rs.length) = true := decide_eq_true hj3
     have q5 : (j2 < rs.length) = True := eq_true hj3
     have wj : wrap64 ((j2 : Int) + 1) = ((j2 + 1 : Nat) : Int) := by have h1 := HPB.out.1; exact (wrap64_id (by omega) (by omega)).trans (by omega)
     have HJ4 := Aside0.mk hj3
     clear hj3 hpm2
     go_upto_region 21 with (fail)
     refine wp_gen (F := fun Wk => Wk.heap[wr.heap.size]? = some (.cells #[.int .i64 p.1, .int .i64 p.2.1, .int .i64 p.2.2] 84 (0, 0)) ∧ Below wr.heap.size wr Wk) ⟨blk_new _ _, below_alloc (Below.refl wr.heap.size wr) _⟩ ?_
     rintro Wk ⟨m0, m1⟩
     obtain ⟨gb, hgb⟩ : ∃ gb, gb = wr.heap.size := ⟨_, rfl⟩
     rw [← hgb] at m0 ⊢
     have BB := Aside0.mk m0
     replace HO := Aside0.mk (Kd.R_below HO.out m1)
     replace HPB := Aside0.mk (show PB Wk gp rs from ⟨HPB.out.1, any_below HPB.out.2 m1⟩)
     replace HB := Aside0.mk (below_step HB.out m1)
     clear m0 m1 hgb c0 c1 c2
     have hz0 : Wk.cell? ⟨gb, 0, none⟩ = some (.int .i64 p.1) := (blk_cell BB.out 0).trans rfl
     have hz1 : Wk.cell? ⟨gb, 1, none⟩ = some (.int .i64 p.2.1) := (blk_cell BB.out 1).trans rfl
     obtain ⟨go, co, eo, gbo, glo, clo, hgo⟩ := Kd.R_form HO.out (by have h1 := HT.out.2; have h2 := HPM.out; omega)
     rw [HT.out.2] at eo
     subst eo
     obtain ⟨hx, hf⟩ := Kd.R_celln 0 HO.out p.1 HPM.out.1 HPM.out.2.1
     have HNE := Aside0.mk (blk_ne HPB.out.2 hgo (by decide) : gp ≠ go)
     have HGO := Aside0.mk gbo
     clear gbo glo hgo
     have u1 : (0 ≤ p.1) = True := eq_true HPM.out.1
     have u2 : (p.1 < (l0.length : Int)) = True := eq_true HPM.out.2.1
     have u3 : decide (p.1 < (l0.length : Int)) = true := decide_eq_true HPM.out.2.1
     have u4 : decide (0 ≤ p.1) = true := decide_eq_true HPM.out.1
     have hbr := rd_bnd HLB.out.2 HPM.out.1 (by rw [HT.out.2]; exact HPM.out.2.1)
     have hj15 : (j2 : Int) < 15 := by have h1 := HPB.out.1; have h2 := HJ4.out; omega
     by_cases hm : p.2.1 < lf
     ·have m1 : (p.2.1 < lf) = True := eq_true hm
      have HMN := Aside0.mk (show mn lf p.2.1 = p.2.1 by unfold mn; rw [if_pos hm])
      have ws : wrap64 (rdOf 0 row2 p.1 + p.2.1) = rdOf 0 row2 p.1 + p.2.1 := wrap64_id (by have := HPM.out; omega) (by have := HPM.out; omega)
      have wl : wrap64 (lf - p.2.1) = lf - p.2.1 := wrap64_id m_144 m_144
      have HHM := Aside0.mk hm
      clear hm hbr hj15
      go_wp2_with fail
      have hm := HHM.out
      have hp3 := HPM.out
      have hO2 := Kd.R_putn HO.out p.1 (rdOf 0 row2 p.1 + p.2.1)
      have hcl := HLB.out
      go_roundg k1
      case measure => omega
      case rel =>
       have hlr := HT.out.2
       have hmn := HMN.out
       refine ⟨lf - p.2.1, j2 + 1, row2.set p.1.toNat (rdOf 0 row2 p.1 + p.2.1), (by first | rfl | rw [wl]), m_134, ⟨(by have := HJ3.out; omega)⟩, ⟨?_, (by rw [List.length_set]; exact hlr)⟩, ⟨⟨(by omega), (by omega)⟩, ?_⟩, ⟨hO2⟩, ⟨HPB.out.1, blk_far HPB.out.2 HNE.out _⟩, ⟨below_set HB.out HGO.out⟩⟩
       ·rw [HT.out.1, HDR.out, takeP, hmn, rd_rdOf]
       ·intro x hx
        rcases List.mem_or_eq_of_mem_set hx with hx | rfl
        ·have := hcl.2 x hx
         omega
        ·have hb := rd_bnd hcl.2 HPM.out.1 (by rw [hlr]; exact HPM.out.2.1)
         have := HPM.out.2.2.2
         omega
     ·have m1 : (p.2.1 < lf) = False := eq_false hm
      have HMN := Aside0.mk (show mn lf p.2.1 = lf by unfold mn; rw [if_neg hm])
      have ws : wrap64 (rdOf 0 row2 p.1 + lf) = rdOf 0 row2 p.1 + lf := wrap64_id m_144 m_144
      have w00 : wrap64 0 = 0 := wrap64_id (by omega) (by omega)
      have HHM := Aside0.mk hm
      clear hm hbr hj15
      go_wp2_with fail
      have hm := HHM.out
      have hp3 := HPM.out
      have hO2 := Kd.R_putn HO.out p.1 (rdOf 0 row2 p.1 + lf)
      have hcl := HLB.out
      go_roundg k1
      case measure => omega
      case rel =>
       have hlr := HT.out.2
       have hmn := HMN.out
       refine ⟨lf - lf, j2 + 1, row2.set p.1.toNat (rdOf 0 row2 p.1 + lf), (by first | rfl | (simp; done) | simp [w00]), m_134, ⟨(by have := HJ3.out; omega)⟩, ⟨?_, (by rw [List.length_set]; exact hlr)⟩, ⟨⟨(by omega), (by omega)⟩, ?_⟩, ⟨hO2⟩, ⟨HPB.out.1, blk_far HPB.out.2 HNE.out _⟩, ⟨below_set HB.out HGO.out⟩⟩
       ·rw [HT.out.1, HDR.out, takeP, hmn, rd_rdOf]
       ·intro x hx
        rcases List.mem_or_eq_of_mem_set hx with hx | rfl
        ·have := hcl.2 x hx
         omega
        ·have hb := rd_bnd hcl.2 HPM.out.1 (by rw [hlr]; exact HPM.out.2.1)
         have := HPM.out.2.2.2
         omega
    ·have hz : rs.drop j2 = [] := List.drop_eq_nil_of_le (by omega)
     have q2 : ((j2 : Int) < (rs.length : Int)) = False := eq_false (by omega)
     have q3 : decide ((j2 : Int) < (rs.length : Int)) = false := decide_eq_false (by omega)
     have q4 : decide (j2 < rs.length) = false := decide_eq_false hj3
     have q5 : (j2 < rs.length) = False := eq_false hj3
     have HZ := Aside0.mk hz
     clear hz hj3
     go_wp2_with fail
     go_ret2
     refine ⟨vr, rfl, ?_, HB.out⟩
     have e : allocRow l0 l1 left = row2 := by
      unfold allocRow
      rw [HF0.out.1, HQ0.out, ← HRS.out.1, HT.out.1, HZ.out, takeP]
     rw [e]
     exact HO.out
set_option maxHeartbeats 8000000 in
set_option maxRecDepth 100000 in
theorem alloc_err (k : Nat) (A0 : Option Addr) (c0 : Nat) (l0 : List (S24)) (A1 : Option Addr) (c1 : Nat) (l1 : List Bool) (a2 least most e0 r2 : Int) (w : World) (hr0 : Kd.C k24 w A0 l0.length l0) (hc0 : l0.length ≤ c0) (hr1 : Kd.C Kd.bool w A1 l1.length l1) (hc1 : l1.length ≤ c1) (hr : energy_Range.f k l0 l1 = some (least, most, e0)) (h : (e0 ≠ 0 ∧ r2 = e0) ∨ (e0 = 0 ∧ a2 < 0 ∧ r2 = 1) ∨ (e0 = 0 ∧ ¬ a2 < 0 ∧ a2 < least ∧ r2 = 8) ∨ (e0 = 0 ∧ ¬ a2 < 0 ∧ ¬ a2 < least ∧ a2 > most ∧ r2 = 8)) :
  Calls Try.prog 32 #[.slice A0 l0.length c0, .slice A1 l1.length c1, .int .i64 a2] w fun e w' => ∃ v0_ : Value, e = .returned (.tuple #[v0_, .int .i64 r2]) ∧ Kd.R (Kd.int .i64) 2 w' w.heap.size (fun _ => True) v0_ [] ∧ Below w.heap.size w w' := by
 have HR0 := Aside0.mk hr0
 have HC0 := Aside0.mk hc0
 have HR1 := Aside0.mk hr1
 have HC1 := Aside0.mk hc1
 have HRG := Aside0.mk hr
 have HB := Aside0.mk (Below.refl w.heap.size w)
 clear hr0 hc0 hr1 hc1 hr
 rcases h with ⟨h1, rfl⟩ | ⟨rfl, h1, rfl⟩ | ⟨rfl, h1, h2, rfl⟩ | ⟨rfl, h1, h2, h3, rfl⟩
 ·have e1 : (r2 = 0) = False := eq_false h1
  have b1 : (r2 == 0) = false := beq_eq_false_iff_ne.mpr h1
  have b2 : (r2 != 0) = true := bne_iff_ne.mpr h1
  clear h1
  go_enter Try.func32, Try.ntmps32
  go_wp2_with ((with_reducible refine gate_callee (f := 52) rfl ?_); refine goesL_ (some 22) rfl rfl Try.func52 m_13 rfl #[.slice A0 l0.length c0, .slice A1 l1.length c1] rfl m_23 ?_; (with_reducible refine (energy_Range.calls k _ _ l0 _ _ l1 least most r2 _ HR0.out HC0.out HR1.out HC1.out HRG.out).mono ?_); rintro e w1 ⟨rfl, hb⟩; refine ⟨_, rfl, ?_⟩; replace HB := Aside0.mk (below_step HB.out hb); clear hb)
  go_ret2
  exact ⟨_, rfl, Kd.R_nil _ _ _ _ _, HB.out⟩
 ·have e1 := eq_true h1
  have b1 : decide (a2 < 0) = true := decide_eq_true h1
  clear h1
  go_enter Try.func32, Try.ntmps32
  go_wp2_with ((with_reducible refine gate_callee (f := 52) rfl ?_); refine goesL_ (some 22) rfl rfl Try.func52 m_13 rfl #[.slice A0 l0.length c0, .slice A1 l1.length c1] rfl m_23 ?_; (with_reducible refine (energy_Range.calls k _ _ l0 _ _ l1 least most 0 _ HR0.out HC0.out HR1.out HC1.out HRG.out).mono ?_); rintro e w1 ⟨rfl, hb⟩; refine ⟨_, rfl, ?_⟩; replace HB := Aside0.mk (below_step HB.out hb); clear hb)
  go_ret2
  exact ⟨_, rfl, Kd.R_nil _ _ _ _ _, HB.out⟩
 ·have e1 := eq_false h1
  have e2 := eq_true h2
  have b1 : decide (a2 < 0) = false := decide_eq_false h1
  have b2 : decide (a2 < least) = true := decide_eq_true h2
  clear h1 h2
  go_enter Try.func32, Try.ntmps32
  go_wp2_with ((with_reducible refine gate_callee (f := 52) rfl ?_); refine goesL_ (some 22) rfl rfl Try.func52 m_13 rfl #[.slice A0 l0.length c0, .slice A1 l1.length c1] rfl m_23 ?_; (with_reducible refine (energy_Range.calls k _ _ l0 _ _ l1 least most 0 _ HR0.out HC0.out HR1.out HC1.out HRG.out).mono ?_); rintro e w1 ⟨rfl, hb⟩; refine ⟨_, rfl, ?_⟩; replace HB := Aside0.mk (below_step HB.out hb); clear hb)
  go_ret2
  exact ⟨_, rfl, Kd.R_nil _ _ _ _ _, HB.out⟩
 ·have e1 := eq_false h1
  have e2 := eq_false h2
  have e3 : (most < a2) = True := eq_true h3
  have b1 : decide (a2 < 0) = false := decide_eq_false h1
  have b2 : decide (a2 < least) = false := decide_eq_false h2
  have b3 : decide (a2 > most) = true := decide_eq_true h3
  have b4 : decide (most < a2) = true := decide_eq_true h3
  clear h1 h2 h3
  go_enter Try.func32, Try.ntmps32
  go_wp2_with ((with_reducible refine gate_callee (f := 52) rfl ?_); refine goesL_ (some 22) rfl rfl Try.func52 m_13 rfl #[.slice A0 l0.length c0, .slice A1 l1.length c1] rfl m_23 ?_; (with_reducible refine (energy_Range.calls k _ _ l0 _ _ l1 least most 0 _ HR0.out HC0.out HR1.out HC1.out HRG.out).mono ?_); rintro e w1 ⟨rfl, hb⟩; refine ⟨_, rfl, ?_⟩; replace HB := Aside0.mk (below_step HB.out hb); clear hb)
  go_ret2
  exact ⟨_, rfl, Kd.R_nil _ _ _ _ _, HB.out⟩
theorem energy_Allocate.calls (k : Nat) (A0 : Option Addr) (c0 : Nat) (l0 : List (S24)) (A1 : Option Addr) (c1 : Nat) (l1 : List Bool) (a2 : Int) (r1 : List Int) (r2 : Int) (w : World) (hr0 : Kd.C k24 w A0 l0.length l0) (hc0 : l0.length ≤ c0) (hr1 : Kd.C Kd.bool w A1 l1.length l1) (hc1 : l1.length ≤ c1) (h : energy_Allocate.f k l0 l1 a2 = some (r1, r2)) :
  Calls Try.prog 32 #[.slice A0 l0.length c0, .slice A1 l1.length c1, .int .i64 a2] w fun e w' => ∃ v0_ : Value, e = .returned (.tuple #[v0_, .int .i64 r2]) ∧ Kd.R (Kd.int .i64) 2 w' w.heap.size (fun _ => True) v0_ r1 ∧ Below w.heap.size w w' := by
 unfold energy_Allocate.f at h
 obtain ⟨⟨least, most, e0⟩, hr, h⟩ := Option.bind_eq_some_iff.mp h
 simp only at h
 by_cases h0 : e0 = 0
 ·rw [if_pos h0] at h
  subst h0
  by_cases h1 : a2 < 0
  ·rw [if_pos h1] at h
   simp only [Option.some.injEq, Prod.mk.injEq] at h
   obtain ⟨rfl, rfl⟩ := h
   exact alloc_err k A0 c0 l0 A1 c1 l1 a2 least most 0 1 w hr0 hc0 hr1 hc1 hr (.inr (.inl ⟨rfl, h1, rfl⟩))
  ·rw [if_neg h1] at h
   by_cases h2 : a2 < least
   ·rw [if_pos h2] at h
    simp only [Option.some.injEq, Prod.mk.injEq] at h
    obtain ⟨rfl, rfl⟩ := h
    exact alloc_err k A0 c0 l0 A1 c1 l1 a2 least most 0 8 w hr0 hc0 hr1 hc1 hr (.inr (.inr (.inl ⟨rfl, h1, h2, rfl⟩)))
   ·rw [if_neg h2] at h
    by_cases h3 : a2 > most
    ·rw [if_pos h3] at h
     simp only [Option.some.injEq, Prod.mk.injEq] at h
     obtain ⟨rfl, rfl⟩ := h
     exact alloc_err k A0 c0 l0 A1 c1 l1 a2 least most 0 8 w hr0 hc0 hr1 hc1 hr (.inr (.inr (.inr ⟨rfl, h1, h2, h3, rfl⟩)))
    ·rw [if_neg h3] at h
     by_cases hg : goodA l0 l1 (wrap64 (a2 - least)) = true
     ·rw [if_pos hg] at h
      simp only [Option.some.injEq, Prod.mk.injEq] at h
      obtain ⟨rfl, rfl⟩ := h
      exact alloc_main k A0 c0 l0 A1 c1 l1 a2 least most w hr0 hc0 hr1 hc1 hr h1 h2 h3 hg
     ·rw [if_neg hg] at h
      cases h
 ·rw [if_neg h0] at h
  simp only [Option.some.injEq, Prod.mk.injEq] at h
  obtain ⟨rfl, rfl⟩ := h
  exact alloc_err k A0 c0 l0 A1 c1 l1 a2 least most _ _ w hr0 hc0 hr1 hc1 hr (.inl ⟨h0, rfl⟩)
end Go.Proofs.Ytelklgdmhnkenaa.U
namespace Go.Proofs.Ytelklgdmhnkenaa.U
attribute [local go_sem] max2_int min2_int max_two min_two max_three min_three max_four min_four
def energy_LeastCost.f (k : Nat) (l0 : List (S24)) (l1 : List Bool) (a2 : Int) : Option (Int × Int) := (energy_Allocate.f k l0 l1 a2).bind fun bt728 => (if bt728.2 = 0 then ((energy_Cost.f k l0 l1 bt728.1).bind fun bt732 => (some (bt732.1, bt732.2))) else (some (0, bt728.2)))
set_option maxHeartbeats 8000000 in
set_option maxRecDepth 100000 in
theorem energy_LeastCost.calls (k : Nat) (A0 : Option Addr) (c0 : Nat) (l0 : List (S24)) (A1 : Option Addr) (c1 : Nat) (l1 : List Bool) (a2 : Int) (r1 : Int) (r2 : Int) (w : World) (hr0 : Kd.C k24 w A0 l0.length l0) (hc0 : l0.length ≤ c0) (hr1 : Kd.C Kd.bool w A1 l1.length l1) (hc1 : l1.length ≤ c1) (h : energy_LeastCost.f k l0 l1 a2 = some (r1, r2)) :
  Calls Try.prog 33 #[.slice A0 l0.length c0, .slice A1 l1.length c1, .int .i64 a2] w fun e w' => e = .returned (.tuple #[.int .i64 r1, .int .i64 r2]) ∧ Below w.heap.size w w' := by
 have HR0 := Aside0.mk hr0
 have HC0 := Aside0.mk hc0
 clear hr0 hc0
 have HR1 := Aside0.mk hr1
 have HC1 := Aside0.mk hc1
 clear hr1 hc1
 have HB := Aside0.mk (Below.refl w.heap.size w)
 have H : ((energy_Allocate.f k l0 l1 a2).bind fun bt728 => (if bt728.2 = 0 then ((energy_Cost.f k l0 l1 bt728.1).bind fun bt732 => (some (bt732.1, bt732.2))) else (some (0, bt728.2)))) = some (r1, r2) := h
 clear h
 replace H := Option.bind_eq_some_iff.mp H
 obtain ⟨⟨t728, t729⟩, A40, H⟩ := H
 replace H : (if t729 = 0 then ((energy_Cost.f k l0 l1 t728).bind fun bt732 => (some (bt732.1, bt732.2))) else (some (0, t729))) = some (r1, r2) := H
 have A4 := Aside0.mk A40
 clear A40
 by_cases c5 : t729 = 0
 ·rw [if_pos c5] at H
  have c5b1 : (t729 != 0) = false := bne_eq_false_iff_eq.mpr c5
  clear c5
  replace H := Option.bind_eq_some_iff.mp H
  obtain ⟨⟨t732, t733⟩, A60, H⟩ := H
  replace H : (some (t732, t733)) = some (r1, r2) := H
  have A6 := Aside0.mk A60
  clear A60
  simp only [Option.some.injEq, Prod.mk.injEq] at H
  obtain ⟨rfl, rfl⟩ := H
  go_enter Try.func33, Try.ntmps33
  go_wp2_with (first | ((with_reducible refine gate_callee (f := 32) rfl ?_); refine goesL_ (some 14) rfl rfl Try.func32 m_13 rfl #[.slice A0 l0.length c0, .slice A1 l1.length c1, .int .i64 a2] rfl m_2 ?_; (with_reducible refine (energy_Allocate.calls k _ _ l0 _ _ l1 a2 t728 t729 _ ?side1 ?side2 ?side3 ?side4 A4.out).mono ?_); (case side1 => exact cA_ HR0.out); (case side2 => exact HC0.out); (case side3 => exact cA_ HR1.out); (case side4 => exact HC1.out); rintro e w7 ⟨v730, rfl, ho0, hb⟩; refine ⟨_, rfl, ?_⟩; have HO731 := Aside0.mk (Kd.R_lower ho0 (below_size m_1)); replace HB := Aside0.mk (below_step m_1 hb); clear hb; (try clear ho0); obtain ⟨Ao8, co8, eo8⟩ := Kd.R_slice HO731.out; subst eo8) | ((with_reducible refine gate_callee (f := 31) rfl ?_); refine goesL_ (some 23) rfl rfl Try.func31 m_13 rfl #[.slice A0 l0.length c0, .slice A1 l1.length c1, .slice Ao8 t728.length co8] rfl m_2 ?_; (with_reducible refine (energy_Cost.calls k _ _ l0 _ _ l1 _ _ t728 t732 t733 _ ?side1 ?side2 ?side3 ?side4 ?side5 ?side6 A6.out).mono ?_); (case side1 => exact cA_ (Kd.C_below HR0.out HB.out)); (case side2 => exact HC0.out); (case side3 => exact cA_ (Kd.C_below HR1.out HB.out)); (case side4 => exact HC1.out); (case side5 => exact cA_ (Kd.R_reads' HO731.out).2.2); (case side6 => exact (Kd.R_reads' HO731.out).2.1); rintro e w9 ⟨rfl, hb⟩; refine ⟨_, rfl, ?_⟩; replace HB := Aside0.mk (below_step m_1 hb); clear hb))
  go_ret2
  exact ⟨m_5, m_1⟩
 ·rw [if_neg c5] at H
  have c5b1 : (t729 != 0) = true := bne_iff_ne.mpr c5
  simp only [Option.some.injEq, Prod.mk.injEq] at H
  obtain ⟨rfl, rfl⟩ := H
  go_enter Try.func33, Try.ntmps33
  go_wp2_with (first | ((with_reducible refine gate_callee (f := 32) rfl ?_); refine goesL_ (some 14) rfl rfl Try.func32 m_13 rfl #[.slice A0 l0.length c0, .slice A1 l1.length c1, .int .i64 a2] rfl m_2 ?_; (with_reducible refine (energy_Allocate.calls k _ _ l0 _ _ l1 a2 t728 t729 _ ?side1 ?side2 ?side3 ?side4 A4.out).mono ?_); (case side1 => exact cA_ HR0.out); (case side2 => exact HC0.out); (case side3 => exact cA_ HR1.out); (case side4 => exact HC1.out); rintro e w10 ⟨v730, rfl, ho0, hb⟩; refine ⟨_, rfl, ?_⟩; replace HB := Aside0.mk (below_step m_1 hb); clear hb; (try clear ho0)))
  go_ret2
  exact ⟨m_5, m_1⟩
theorem okU_of {u : S24} (h : ckU u = 0) : OkU u := by
  unfold ckU checkF at h
  split at h
  · omega
  · split at h
    · rename_i hw
      split at h
      · rename_i hB
        simp only [Bool.and_eq_true] at hB
        have hm : maxF u.f2 = qsum u.f2 := by unfold maxF; rw [if_pos hw]
        have h1 := hB.1.1.1
        unfold inB at h1
        rw [hm] at h1
        simp at h1
        exact ⟨hw, h1.1, h1.2⟩
      · omega
    · rename_i hw
      exact absurd h hw
theorem chk_all : ∀ {l0 : List S24}, chk l0 = 0 → ∀ u ∈ l0, OkU u
  | [], _, u, hu => by cases hu
  | x :: l, h, u, hu => by
    rw [chk] at h
    by_cases hx : ckU x = 0
    · rw [if_pos hx] at h
      rcases List.mem_cons.1 hu with rfl | hu
      · exact okU_of hx
      · exact chk_all h u hu
    · rw [if_neg hx] at h; exact absurd h hx
def inR (u : S24) (b : Bool) (q : Int) : Bool := if b then decide (u.f1 ≤ q) && decide (q ≤ qsum u.f2) else q == 0
def allR : List S24 → List Bool → List Int → Bool
  | u :: us, b :: bs, q :: qs => inR u b q && allR us bs qs
  | _, _, _ => true
def sumP : List S24 → List Int → Int
  | u :: us, q :: qs => partF u.f2 q + sumP us qs
  | _, _ => 0
theorem cost_loop3 (l0 : List S24) (l1 : List Bool) (row : List Int) (hl : l0.length ≤ 5) (h1 : l1.length = l0.length) (h2 : row.length = l0.length) (ho : ∀ u ∈ l0, OkU u) (d : Nat) : ∀ (i : Nat) (a : Int), l0.length - i = d → i ≤ l0.length → -(3000000000000 * (i : Int)) ≤ a → a ≤ 3000000000000 * (i : Int) →
    Evs (fun k => energy_Cost.l0 k l0 l1 a row (l0.length : Int) (i : Int)) (if allR (l0.drop i) (l1.drop i) (row.drop i) = true then (a + sumP (l0.drop i) (row.drop i), 0) else (0, 3)) := by
  induction d with
  | zero =>
    intro i a hd hi _ _
    obtain rfl : i = l0.length := by omega
    refine Evs.succ (Evs.all fun k => ?_)
    simp only [energy_Cost.l0]
    rw [if_neg (by omega)]
    simp [allR, sumP]
  | succ d ih =>
    intro i a hd hi ha0 ha1
    have hlt : i < l0.length := by omega
    have e1 := rd24 l0 i hlt
    have hd2 : l0.drop i = l0[i] :: l0.drop (i + 1) := List.drop_eq_getElem_cons hlt
    have hu := ho l0[i] (List.getElem_mem hlt)
    generalize l0[i] = u at e1 hd2 hu
    have hlt1 : i < l1.length := by omega
    have hd3 : l1.drop i = l1[i] :: l1.drop (i + 1) := List.drop_eq_getElem_cons hlt1
    have e2 : rdOf false l1 (i : Int) = l1[i] := by simp [rdOf, hlt1]
    generalize l1[i] = c at e2 hd3
    have hlt2 : i < row.length := by omega
    have hd4 : row.drop i = row[i] :: row.drop (i + 1) := List.drop_eq_getElem_cons hlt2
    have e3 : rd row (i : Int) = row[i] := by simp [rd, hlt2]
    generalize row[i] = q at e3 hd4
    have hub := okU_bnd hu
    have hm0 := hu.min0
    have hm1 := hu.min1
    have hstep : ∀ (hq0 : 0 ≤ q) (hq1 : q ≤ qsum u.f2), Evs (fun k => (energy_part.f k u.f2 q).bind fun t => energy_Cost.l0 k l0 l1 (wrap64 (a + t)) row (l0.length : Int) (wrap64 ((i : Int) + 1))) (if allR (l0.drop (i + 1)) (l1.drop (i + 1)) (row.drop (i + 1)) = true then (a + (partF u.f2 q + sumP (l0.drop (i + 1)) (row.drop (i + 1))), 0) else (0, 3)) := by
      intro hq0 hq1
      have hpb := partF_bnd u.f2 q hub.2.2.1 hq0
      have h := ih (i + 1) (a + partF u.f2 q) (by omega) (by omega) (by omega) (by omega)
      refine (part_f hub.1 hq0 hq1).bind ?_
      rw [wrap_id (x := a + partF u.f2 q) (by omega) (by omega), wrap_id (x := (i : Int) + 1) (by omega) (by omega), ← Int.add_assoc]
      exact h
    rw [hd2, hd3, hd4, allR, sumP]
    refine Evs.succ ?_
    simp only [energy_Cost.l0, if_pos (show (i : Int) < (l0.length : Int) by omega), if_pos (show (0 : Int) ≤ (i : Int) by omega), if_pos (show (i : Int) < (l1.length : Int) by omega), if_pos (show (i : Int) < (row.length : Int) by omega), e1, e2, e3]
    refine (max_f u.f0 u.f1 u.f2 u.f3 u.f4 u.f5 u.f6 u.f7 u.f8).bind ?_
    rw [hub.2.2.2.2.2]
    cases c with
    | true =>
      simp only [if_true]
      by_cases c1 : q < u.f1
      · simp only [if_pos c1]
        have e : inR u true q = false := by simp [inR]; omega
        rw [e]
        exact Evs.const rfl
      · simp only [if_neg c1]
        by_cases c2 : q > qsum u.f2
        · simp only [if_pos c2]
          have e : inR u true q = false := by simp [inR]; omega
          rw [e]
          exact Evs.const rfl
        · simp only [if_neg c2]
          have e : inR u true q = true := by simp [inR]; omega
          rw [e, Bool.true_and]
          exact hstep (by omega) (by omega)
    | false =>
      simp only [if_neg (show ¬ (false = true) by decide)]
      by_cases c1 : q < 0
      · simp only [if_pos c1]
        have e : inR u false q = false := by simp [inR]; omega
        rw [e]
        exact Evs.const rfl
      · simp only [if_neg c1]
        by_cases c2 : q > 0
        · simp only [if_pos c2]
          have e : inR u false q = false := by simp [inR]; omega
          rw [e]
          exact Evs.const rfl
        · simp only [if_neg c2]
          have e : inR u false q = true := by simp [inR]; omega
          rw [e, Bool.true_and]
          exact hstep (by omega) (by omega)
def costR (l0 : List S24) (l1 : List Bool) (row : List Int) : Int × Int := if ckF l0 l1 = 0 then (if row.length = l0.length then (if allR l0 l1 row = true then (sumP l0 row, 0) else (0, 3)) else (0, 3)) else (0, ckF l0 l1)
theorem ck_ok {l0 : List S24} {l1 : List Bool} (h : ckF l0 l1 = 0) : l0.length ≤ 5 ∧ l1.length = l0.length ∧ ∀ u ∈ l0, OkU u := by
  unfold ckF at h
  by_cases h5 : 5 < l0.length
  · rw [if_pos h5] at h; omega
  · rw [if_neg h5] at h
    by_cases hc : chk l0 = 0
    · rw [if_pos hc] at h
      by_cases hl : l1.length = l0.length
      · exact ⟨by omega, hl, chk_all hc⟩
      · rw [if_neg hl] at h; omega
    · rw [if_neg hc] at h; exact absurd h hc
theorem Cost_f (l0 : List S24) (l1 : List Bool) (row : List Int) : Evs (fun k => energy_Cost.f k l0 l1 row) (costR l0 l1 row) := by
  unfold energy_Cost.f costR
  refine (Check_f l0 l1).bind ?_
  by_cases h : ckF l0 l1 = 0
  · obtain ⟨h5, h1, ho⟩ := ck_ok h
    simp only [if_pos h]
    by_cases h2 : row.length = l0.length
    · simp only [if_pos h2, if_pos (show (row.length : Int) = (l0.length : Int) by omega)]
      have := cost_loop3 l0 l1 row h5 h1 h2 ho l0.length 0 0 (by omega) (by omega) (by omega) (by omega)
      rw [List.drop_zero, List.drop_zero, List.drop_zero, Int.zero_add] at this
      rw [h2]
      exact this
    · simp only [if_neg h2, if_neg (show ¬ (row.length : Int) = (l0.length : Int) by omega)]
      exact Evs.const rfl
  · simp only [if_neg h]
    exact Evs.const rfl
def rangeR (l0 : List S24) (l1 : List Bool) : Int × Int × Int := if ckF l0 l1 = 0 then (leastF l0 l1, mostF l0 l1, 0) else (0, 0, ckF l0 l1)
theorem Range_f (l0 : List S24) (l1 : List Bool) : Evs (fun k => energy_Range.f k l0 l1) (rangeR l0 l1) := by
  unfold energy_Range.f rangeR
  refine (Check_f l0 l1).bind ?_
  by_cases h : ckF l0 l1 = 0
  · obtain ⟨h5, h1, ho⟩ := ck_ok h
    simp only [if_pos h]
    have := range_loop l0 l1 h5 h1 ho l0.length 0 0 0 (by omega) (by omega) (by omega) (by omega) (by omega) (by omega)
    rw [List.drop_zero, List.drop_zero, Int.zero_add, Int.zero_add] at this
    exact this
  · simp only [if_neg h]
    exact Evs.const rfl
theorem ris_of : ∀ {prev : Option Int} {l : List S99}, wrongFrom true prev l = 0 → risB l = true ∧ ∀ a, prev = some a → ∀ x, l.head? = some x → a < x.f1
  | prev, [], h => ⟨rfl, fun a _ x hx => by cases hx⟩
  | prev, y :: l, h => by
    unfold wrongFrom at h
    split at h
    · omega
    · split at h
      · omega
      · rename_i hc
        have ih := ris_of h
        refine ⟨?_, fun a ha x hx => ?_⟩
        · cases l with
          | nil => rfl
          | cons z l =>
            have := ih.2 y.f1 rfl z rfl
            simp [risB, this, ih.1]
        · obtain rfl := Option.some.inj hx
          subst ha
          simp [cutB, afterB] at hc
          exact hc
theorem good_of {u : S24} (h : OkU u) : goodU u = true := by
  have hb := okU_bnd h
  have hr : risB u.f2 = true := by
    have hw := h.up
    unfold wrongF at hw
    split at hw
    · omega
    · split at hw
      · omega
      · exact (ris_of hw).1
  have h1 := h.min0
  have h2 := h.min1
  unfold goodU
  simp only [Bool.and_eq_true, decide_eq_true_eq, List.all_eq_true]
  exact ⟨⟨⟨⟨hb.2.1, h1⟩, by omega⟩, fun s hs => by have := hb.2.2.1 s hs; omega⟩, hr⟩
def allocR (l0 : List S24) (l1 : List Bool) (d : Int) : List Int × Int := if ckF l0 l1 = 0 then (if d < 0 then ([], 1) else if d < leastF l0 l1 then ([], 8) else if d > mostF l0 l1 then ([], 8) else (allocRow l0 l1 (d - leastF l0 l1), 0)) else ([], ckF l0 l1)
theorem alloc_f (l0 : List S24) (l1 : List Bool) (d : Int) : Evs (fun k => energy_Allocate.f k l0 l1 d) (allocR l0 l1 d) := by
  unfold energy_Allocate.f allocR
  refine (Range_f l0 l1).bind ?_
  unfold rangeR
  by_cases h : ckF l0 l1 = 0
  · obtain ⟨h5, h1, ho⟩ := ck_ok h
    have hb := lm_bnd l0 l1 ho
    simp only [if_pos h]
    by_cases c1 : d < 0
    · simp only [if_pos c1]; exact Evs.const rfl
    · simp only [if_neg c1]
      by_cases c2 : d < leastF l0 l1
      · simp only [if_pos c2]; exact Evs.const rfl
      · simp only [if_neg c2]
        by_cases c3 : d > mostF l0 l1
        · simp only [if_pos c3]; exact Evs.const rfl
        · simp only [if_neg c3]
          have e : wrap64 (d - leastF l0 l1) = d - leastF l0 l1 := wrap_id (by omega) (by omega)
          rw [e]
          have hg : goodA l0 l1 (d - leastF l0 l1) = true := by
            unfold goodA
            simp only [Bool.and_eq_true, decide_eq_true_eq, List.all_eq_true]
            exact ⟨⟨⟨⟨h5, h1⟩, fun u hu => good_of (ho u hu)⟩, by omega⟩, by omega⟩
          simp only [if_pos hg]
          exact Evs.const rfl
  · simp only [if_neg h]; exact Evs.const rfl
def leastR (l0 : List S24) (l1 : List Bool) (d : Int) : Int × Int := if (allocR l0 l1 d).2 = 0 then costR l0 l1 (allocR l0 l1 d).1 else (0, (allocR l0 l1 d).2)
theorem least_f (l0 : List S24) (l1 : List Bool) (d : Int) : Evs (fun k => energy_LeastCost.f k l0 l1 d) (leastR l0 l1 d) := by
  unfold energy_LeastCost.f leastR
  refine (alloc_f l0 l1 d).bind ?_
  by_cases h : (allocR l0 l1 d).2 = 0
  · simp only [if_pos h]
    exact (Cost_f l0 l1 _).bind (Evs.const rfl)
  · simp only [if_neg h]
    exact Evs.const rfl
abbrev Zp := List (Pc × Int)
def cstZ (K : Pc → Int) : Zp → Int
  | [] => 0
  | z :: l => z.2 * K z.1 + cstZ K l
def sumZ : Zp → Int
  | [] => 0
  | z :: l => z.2 + sumZ l
def totP : List Pc → Int
  | [] => 0
  | p :: l => p.2.1 + totP l
def fillZ : Int → List Pc → Zp
  | _, [] => []
  | t, p :: l => (p, mn t p.2.1) :: fillZ (t - mn t p.2.1) l
abbrev okZ (Z : Zp) : Prop := ∀ z ∈ Z, 0 ≤ z.2 ∧ z.2 ≤ z.1.2.1
theorem mnb (a b : Int) : mn a b ≤ a ∧ mn a b ≤ b ∧ (mn a b = a ∨ mn a b = b) := by unfold mn; split <;> omega
theorem totP_nn : ∀ (l : List Pc), (∀ p ∈ l, 0 ≤ p.2.1) → 0 ≤ totP l
  | [], _ => by simp [totP]
  | p :: l, h => by
    have h1 := h p List.mem_cons_self
    have h2 := totP_nn l (fun q hq => h q (List.mem_cons_of_mem _ hq))
    rw [totP]
    omega
theorem fillZ_fst : ∀ (t : Int) (l : List Pc), (fillZ t l).map (·.1) = l
  | _, [] => rfl
  | t, p :: l => by rw [fillZ, List.map_cons, fillZ_fst]
theorem fillZ_ok : ∀ (t : Int) (l : List Pc), 0 ≤ t → (∀ p ∈ l, 0 ≤ p.2.1) → okZ (fillZ t l)
  | _, [], _, _ => by intro z hz; cases hz
  | t, p :: l, h, hp => by
    have hm := mnb t p.2.1
    have h0 := hp p List.mem_cons_self
    intro z hz
    rw [fillZ] at hz
    rcases List.mem_cons.1 hz with rfl | hz
    · exact ⟨by simp; omega, by simp; omega⟩
    · exact fillZ_ok _ l (by omega) (fun q hq => hp q (List.mem_cons_of_mem _ hq)) z hz
theorem fillZ_sum : ∀ (t : Int) (l : List Pc), 0 ≤ t → t ≤ totP l → (∀ p ∈ l, 0 ≤ p.2.1) → sumZ (fillZ t l) = t
  | t, [], h0, h1, _ => by simp [totP] at h1; simp [fillZ, sumZ]; omega
  | t, p :: l, h0, h1, hp => by
    have hm := mnb t p.2.1
    have h2 := hp p List.mem_cons_self
    rw [totP] at h1
    have hn := totP_nn l (fun q hq => hp q (List.mem_cons_of_mem _ hq))
    rw [fillZ, sumZ, fillZ_sum (t - mn t p.2.1) l (by omega) (by omega) (fun q hq => hp q (List.mem_cons_of_mem _ hq))]
    simp
    omega
theorem sumZ_bnd : ∀ (Z : Zp), okZ Z → 0 ≤ sumZ Z ∧ sumZ Z ≤ totP (Z.map (·.1))
  | [], _ => by simp [sumZ, totP]
  | z :: l, h => by
    have h1 := h z List.mem_cons_self
    have ih := sumZ_bnd l (fun x hx => h x (List.mem_cons_of_mem _ hx))
    rw [sumZ, List.map_cons, totP]
    omega
theorem fill_mono (K : Pc → Int) (c : Int) : ∀ (l : List Pc) (s d : Int), (∀ p ∈ l, c ≤ K p ∧ 0 ≤ p.2.1) → 0 ≤ s → 0 ≤ d → s + d ≤ totP l → cstZ K (fillZ s l) + d * c ≤ cstZ K (fillZ (s + d) l)
  | [], s, d, _, h0, h1, h2 => by
    simp [totP] at h2
    have : d = 0 := by omega
    subst this
    simp [fillZ, cstZ]
  | p :: l, s, d, h, h0, h1, h2 => by
    have hp := h p List.mem_cons_self
    have m1 := mnb s p.2.1
    have m2 := mnb (s + d) p.2.1
    rw [totP] at h2
    have hn := totP_nn l (fun q hq => (h q (List.mem_cons_of_mem _ hq)).2)
    rw [fillZ, fillZ, cstZ, cstZ]
    obtain ⟨e, he⟩ : ∃ e, e = mn (s + d) p.2.1 - mn s p.2.1 := ⟨_, rfl⟩
    have he0 : 0 ≤ e := by omega
    have hed : e ≤ d := by omega
    have ih := fill_mono K c l (s - mn s p.2.1) (d - e) (fun q hq => h q (List.mem_cons_of_mem _ hq)) (by omega) (by omega) (by omega)
    rw [show s - mn s p.2.1 + (d - e) = s + d - mn (s + d) p.2.1 by omega] at ih
    have hx : mn (s + d) p.2.1 = mn s p.2.1 + e := by omega
    have hk : 0 ≤ e * (K p - c) := Int.mul_nonneg he0 (by omega)
    rw [Int.mul_sub] at hk
    rw [Int.sub_mul] at ih
    simp only
    rw [hx] at ih ⊢
    rw [Int.add_mul]
    omega
theorem knap (K : Pc → Int) : ∀ (Z : Zp), (Z.map (·.1)).Pairwise (fun x y => K x ≤ K y) → okZ Z → cstZ K (fillZ (sumZ Z) (Z.map (·.1))) ≤ cstZ K Z
  | [], _, _ => by simp [fillZ, cstZ, sumZ]
  | z :: l, hs, h => by
    rw [List.map_cons] at hs ⊢
    obtain ⟨hs1, hs2⟩ := List.pairwise_cons.1 hs
    have hl : okZ l := fun x hx => h x (List.mem_cons_of_mem _ hx)
    have hz := h z List.mem_cons_self
    have hb := sumZ_bnd l hl
    have ih := knap K l hs2 hl
    have m1 := mnb (sumZ (z :: l)) z.1.2.1
    rw [sumZ] at m1 ⊢
    rw [fillZ, cstZ, cstZ]
    obtain ⟨e, he⟩ : ∃ e, e = mn (z.2 + sumZ l) z.1.2.1 - z.2 := ⟨_, rfl⟩
    have he0 : 0 ≤ e := by omega
    have hq : ∀ p ∈ l.map (·.1), K z.1 ≤ K p ∧ 0 ≤ p.2.1 := by
      intro p hp
      refine ⟨hs1 p hp, ?_⟩
      obtain ⟨y, hy, rfl⟩ := List.mem_map.1 hp
      have := hl y hy
      omega
    have hm := fill_mono K (K z.1) (l.map (·.1)) (z.2 + sumZ l - mn (z.2 + sumZ l) z.1.2.1) e hq (by omega) he0 (by omega)
    rw [show z.2 + sumZ l - mn (z.2 + sumZ l) z.1.2.1 + e = sumZ l by omega] at hm
    have hx : mn (z.2 + sumZ l) z.1.2.1 = z.2 + e := by omega
    simp only
    rw [hx] at hm ⊢
    rw [Int.add_mul]
    omega
theorem cst_perm (K : Pc → Int) {Z Z' : Zp} (h : Z.Perm Z') : cstZ K Z = cstZ K Z' := by
  induction h with
  | nil => rfl
  | cons x _ ih => rw [cstZ, cstZ, ih]
  | swap x y l => rw [cstZ, cstZ, cstZ, cstZ]; omega
  | trans _ _ h1 h2 => exact h1.trans h2
theorem sum_perm {Z Z' : Zp} (h : Z.Perm Z') : sumZ Z = sumZ Z' := by
  induction h with
  | nil => rfl
  | cons x _ ih => rw [sumZ, sumZ, ih]
  | swap x y l => rw [sumZ, sumZ, sumZ, sumZ]; omega
  | trans _ _ h1 h2 => exact h1.trans h2
theorem perm_lift : ∀ {l m : List Pc}, l.Perm m → ∀ Z : Zp, Z.map (·.1) = l → ∃ Z' : Zp, Z'.Perm Z ∧ Z'.map (·.1) = m := by
  intro l m h
  induction h with
  | nil => intro Z hZ; exact ⟨Z, List.Perm.refl _, hZ⟩
  | cons x _ ih =>
    intro Z hZ
    match Z, hZ with
    | z :: Z, hZ =>
      rw [List.map_cons] at hZ
      obtain ⟨h1, h2⟩ := List.cons_eq_cons.1 hZ
      obtain ⟨Z', hp, hm⟩ := ih Z h2
      exact ⟨z :: Z', hp.cons z, by rw [List.map_cons, h1, hm]⟩
  | swap x y l =>
    intro Z hZ
    match Z, hZ with
    | a :: b :: Z, hZ =>
      simp only [List.map_cons] at hZ
      obtain ⟨h1, h2⟩ := List.cons_eq_cons.1 hZ
      obtain ⟨h3, h4⟩ := List.cons_eq_cons.1 h2
      exact ⟨b :: a :: Z, List.Perm.swap a b Z, by simp only [List.map_cons]; rw [h1, h3, h4]⟩
  | trans _ _ h1 h2 =>
    intro Z hZ
    obtain ⟨Z1, p1, m1⟩ := h1 Z hZ
    obtain ⟨Z2, p2, m2⟩ := h2 Z1 m1
    exact ⟨Z2, p2.trans p1, m2⟩
theorem cst_append (K : Pc → Int) : ∀ (A B : Zp), cstZ K (A ++ B) = cstZ K A + cstZ K B
  | [], B => by simp [cstZ]
  | z :: A, B => by rw [List.cons_append, cstZ, cstZ, cst_append]; omega
theorem sum_append : ∀ (A B : Zp), sumZ (A ++ B) = sumZ A + sumZ B
  | [], B => by simp [sumZ]
  | z :: A, B => by rw [List.cons_append, sumZ, sumZ, sum_append]; omega
theorem cst_part (K : Pc → Int) (f : Pc × Int → Bool) : ∀ (Z : Zp), cstZ K Z = cstZ K (Z.filter f) + cstZ K (Z.filter (fun z => !f z))
  | [] => by simp [cstZ]
  | z :: Z => by
    have ih := cst_part K f Z
    cases hf : f z
    · simp only [List.filter_cons, hf, Bool.not_false, if_true, cstZ]
      simp
      omega
    · simp only [List.filter_cons, hf, Bool.not_true, if_true, cstZ]
      simp
      omega
theorem sum_part (f : Pc × Int → Bool) : ∀ (Z : Zp), sumZ Z = sumZ (Z.filter f) + sumZ (Z.filter (fun z => !f z))
  | [] => by simp [sumZ]
  | z :: Z => by
    have ih := sum_part f Z
    cases hf : f z
    · simp only [List.filter_cons, hf, Bool.not_false, if_true, sumZ]
      simp
      omega
    · simp only [List.filter_cons, hf, Bool.not_true, if_true, sumZ]
      simp
      omega
def prP (p : Pc) : Int := p.2.2
def KK (M : Int) (w : Int → Int) (p : Pc) : Int := M * p.2.2 + w p.1
def KU (M w : Int) (u : S24) (q : Int) : Int := M * partF u.f2 q + w * q
theorem partF_0 : ∀ (l : List S99), okL l → partF l 0 = 0
  | [], _ => rfl
  | s :: l, h => by
    have hs := h s List.mem_cons_self
    have e : mn 0 s.f0 = 0 := by unfold mn; rw [if_neg (by omega)]
    rw [partF, e, Int.sub_zero, partF_0 l (fun x hx => h x (List.mem_cons_of_mem _ hx))]
    omega
theorem totS (a : Int) : ∀ (b : Int) (l : List S99), okL l → 0 ≤ b → b ≤ qsum l → totP (addS a b l) = qsum l - b
  | b, [], _, h0, h1 => by simp [qsum] at h1; simp [addS, totP, qsum]; omega
  | b, s :: l, h, h0, h1 => by
    have hs := h s List.mem_cons_self
    have hl : okL l := fun x hx => h x (List.mem_cons_of_mem _ hx)
    have hb := qsum_bound hl
    rw [qsum_cons] at h1 ⊢
    unfold addS
    split
    · rw [totP, totS a 0 l hl (by omega) (by omega)]; simp; omega
    · rw [totS a (b - s.f0) l hl (by omega) (by omega)]; omega
theorem partS (a : Int) : ∀ (b t : Int) (l : List S99), okL l → 0 ≤ b → 0 ≤ t → partF l (b + t) = partF l b + cstZ prP (fillZ t (addS a b l))
  | b, t, [], _, _, _ => by simp [partF, addS, fillZ, cstZ]
  | b, t, s :: l, h, h0, h1 => by
    have hs := h s List.mem_cons_self
    have hl : okL l := fun x hx => h x (List.mem_cons_of_mem _ hx)
    unfold addS
    split
    · rename_i hlt
      have e1 : mn b s.f0 = b := by unfold mn; rw [if_neg (by omega)]
      have e2 : mn (b + t) s.f0 = b + mn t (s.f0 - b) := by unfold mn; split <;> split <;> omega
      have hm := mnb t (s.f0 - b)
      have ih := partS a 0 (t - mn t (s.f0 - b)) l hl (by omega) (by omega)
      rw [partF, partF, e1, e2, fillZ, cstZ, Int.sub_self, partF_0 l hl]
      rw [partF_0 l hl, Int.zero_add, Int.zero_add] at ih
      rw [show b + t - (b + mn t (s.f0 - b)) = t - mn t (s.f0 - b) by omega, ih, Int.add_mul]
      simp only [prP]
      omega
    · have e1 : mn b s.f0 = s.f0 := by unfold mn; split <;> omega
      have e2 : mn (b + t) s.f0 = s.f0 := by unfold mn; split <;> omega
      have ih := partS a (b - s.f0) t l hl (by omega) h1
      rw [partF, partF, e1, e2, show b + t - s.f0 = b - s.f0 + t by omega, ih]
      omega
theorem cst_lin (M : Int) (w : Int → Int) (a : Int) : ∀ (Z : Zp), (∀ z ∈ Z, z.1.1 = a) → cstZ (KK M w) Z = M * cstZ prP Z + w a * sumZ Z
  | [], _ => by simp [cstZ, sumZ]
  | z :: l, h => by
    have h1 := h z List.mem_cons_self
    have ih := cst_lin M w a l (fun x hx => h x (List.mem_cons_of_mem _ hx))
    rw [cstZ, cstZ, sumZ, ih]
    unfold KK prP
    rw [h1, Int.mul_add, Int.mul_add, Int.mul_add, ← Int.mul_assoc, ← Int.mul_assoc, Int.mul_comm z.2 M, Int.mul_comm z.2 (w a)]
    omega
theorem mem_fst {Z : Zp} {l : List Pc} (h : Z.map (·.1) = l) {z : Pc × Int} (hz : z ∈ Z) : z.1 ∈ l := by rw [← h]; exact List.mem_map.2 ⟨z, hz, rfl⟩
theorem u_ok {u : S24} (h : OkU u) (a : Int) : ∀ p ∈ addS a u.f1 u.f2, p.1 = a ∧ 0 < p.2.1 := by
  have hb := okU_bnd h
  intro p hp
  have := addS_mem a u.f1 u.f2 h.min0 (fun s hs => by have := hb.2.2.1 s hs; omega) p hp
  exact ⟨this.1, this.2.1⟩
theorem u_eq {u : S24} (h : OkU u) (M : Int) (w : Int → Int) (a : Int) {t : Int} (h0 : 0 ≤ t) (h1 : u.f1 + t ≤ qsum u.f2) : KU M (w a) u (u.f1 + t) = KU M (w a) u u.f1 + cstZ (KK M w) (fillZ t (addS a u.f1 u.f2)) := by
  have hb := okU_bnd h
  have hm0 := h.min0
  have hm1 := h.min1
  have hp := u_ok h a
  have e := cst_lin M w a (fillZ t (addS a u.f1 u.f2)) (fun z hz => (hp _ (mem_fst (fillZ_fst _ _) hz)).1)
  rw [e, fillZ_sum t _ h0 (by rw [totS a u.f1 u.f2 hb.2.2.1 hm0 hm1]; omega) (fun p hq => by have := (hp p hq).2; omega)]
  unfold KU
  rw [partS a u.f1 t u.f2 hb.2.2.1 hm0 h0, Int.mul_add, Int.mul_add]
  omega
theorem u_le {u : S24} (h : OkU u) {M : Int} (hM : 0 ≤ M) (w : Int → Int) (a : Int) {Z : Zp} (hz : Z.map (·.1) = addS a u.f1 u.f2) (ho : okZ Z) : u.f1 ≤ u.f1 + sumZ Z ∧ u.f1 + sumZ Z ≤ qsum u.f2 ∧ KU M (w a) u (u.f1 + sumZ Z) ≤ KU M (w a) u u.f1 + cstZ (KK M w) Z := by
  have hb := okU_bnd h
  have hm0 := h.min0
  have hm1 := h.min1
  have hs := sumZ_bnd Z ho
  rw [hz, totS a u.f1 u.f2 hb.2.2.1 hm0 hm1] at hs
  have hg := good_u (good_of h)
  have hpre := addS_pre a u.f1 u.f2 hm0 hg.2.2.2.1 hg.2.2.2.2
  have hpr : (Z.map (·.1)).Pairwise (fun x y => KK M w x ≤ KK M w y) := by
    rw [hz]
    refine hpre.imp_of_mem ?_
    intro x y hx hy hxy
    have h1 := (u_ok h a x hx).1
    have h2 := (u_ok h a y hy).1
    unfold KK
    rw [h1, h2]
    have h3 : x.2.2 ≤ y.2.2 := by unfold Pre at hxy; omega
    have := Int.mul_le_mul_of_nonneg_left h3 hM
    omega
  have hk := knap (KK M w) Z hpr ho
  rw [hz] at hk
  refine ⟨by omega, by omega, ?_⟩
  rw [u_eq h M w a hs.1 (by omega)]
  omega
def sumL : List Int → Int
  | [] => 0
  | x :: l => x + sumL l
def KR (M : Int) (w : Int → Int) : Nat → List S24 → List Int → Int
  | i, u :: us, r :: rs => KU M (w i) u r + KR M w (i + 1) us rs
  | _, _, _ => 0
def baseL : List S24 → List Bool → List Int
  | u :: us, b :: bs => (if b then u.f1 else 0) :: baseL us bs
  | _, _ => []
theorem row_pieces (M : Int) (w : Int → Int) : ∀ (i : Nat) (us : List S24) (bs : List Bool) (rs : List Int), (∀ u ∈ us, OkU u) → bs.length = us.length → rs.length = us.length → allR us bs rs = true →
    ∃ Z : Zp, Z.map (·.1) = piecesOf i us bs ∧ okZ Z ∧ KR M w i us rs = KR M w i us (baseL us bs) + cstZ (KK M w) Z ∧ sumL rs = leastF us bs + sumZ Z
  | _, [], _, [], _, _, _, _ => ⟨[], by simp [piecesOf], (fun z hz => nomatch hz), by simp [KR, baseL, cstZ], by simp [sumL, leastF, sumZ]⟩
  | _, _ :: _, [], _, _, h, _, _ => by simp at h
  | _, _ :: _, _ :: _, [], _, _, h, _ => by simp at h
  | _, [], _, _ :: _, _, _, h, _ => by simp at h
  | i, u :: us, b :: bs, r :: rs, ho, h1, h2, ha => by
    rw [allR, Bool.and_eq_true] at ha
    have hu := ho u List.mem_cons_self
    obtain ⟨Z, hZ, hok, hc, hs⟩ := row_pieces M w (i + 1) us bs rs (fun x hx => ho x (List.mem_cons_of_mem _ hx)) (by simpa using h1) (by simpa using h2) ha.2
    have hr := ha.1
    cases b with
    | false =>
      simp [inR] at hr
      subst hr
      refine ⟨Z, by rw [piecesOf, hZ]; rfl, hok, ?_, ?_⟩
      · rw [baseL, KR, KR, hc]; simp; omega
      · rw [sumL, leastF, hs]; simp
    | true =>
      simp [inR] at hr
      have hp := u_ok hu i
      have he := u_eq hu M w i (t := r - u.f1) (by omega) (by omega)
      have hb := okU_bnd hu
      have ht := totS i u.f1 u.f2 hb.2.2.1 hu.min0 hu.min1
      rw [show u.f1 + (r - u.f1) = r by omega] at he
      refine ⟨fillZ (r - u.f1) (addS i u.f1 u.f2) ++ Z, ?_, ?_, ?_, ?_⟩
      · rw [List.map_append, fillZ_fst, piecesOf, hZ]; rfl
      · intro z hz
        rcases List.mem_append.1 hz with hz | hz
        · exact fillZ_ok _ _ (by omega) (fun p hq => by have := (hp p hq).2; omega) z hz
        · exact hok z hz
      · rw [baseL, KR, KR, hc, cst_append, he]; simp; omega
      · rw [sumL, leastF, hs, sum_append, fillZ_sum _ _ (by omega) (by rw [ht]; omega) (fun p hq => by have := (hp p hq).2; omega)]; simp; omega
abbrev atU (a : Int) (Z : Zp) : Zp := Z.filter (fun z => z.1.1 == a)
def gRow : Nat → List S24 → List Bool → Zp → List Int
  | i, u :: us, b :: bs, Z => ((if b then u.f1 else 0) + sumZ (atU i Z)) :: gRow (i + 1) us bs Z
  | _, _, _, _ => []
def cstU (K : Pc → Int) (Z : Zp) : Nat → Nat → Int
  | _, 0 => 0
  | i, n + 1 => cstZ K (atU i Z) + cstU K Z (i + 1) n
def sumU (Z : Zp) : Nat → Nat → Int
  | _, 0 => 0
  | i, n + 1 => sumZ (atU i Z) + sumU Z (i + 1) n
theorem atU_rest (a b : Int) (h : a ≠ b) (Z : Zp) : atU a (Z.filter (fun z => !(z.1.1 == b))) = atU a Z := by
  unfold atU
  rw [List.filter_filter]
  congr 1
  funext z
  by_cases hz : z.1.1 = a
  · have : ¬ z.1.1 = b := by omega
    simp [hz, h]
  · simp [hz]
theorem cstU_rest (K : Pc → Int) (b : Int) (Z : Zp) : ∀ (n i : Nat), b < (i : Int) → cstU K (Z.filter (fun z => !(z.1.1 == b))) i n = cstU K Z i n
  | 0, _, _ => rfl
  | n + 1, i, h => by
    rw [cstU, cstU, atU_rest _ _ (by omega), cstU_rest K b Z n (i + 1) (by omega)]
theorem sumU_rest (b : Int) (Z : Zp) : ∀ (n i : Nat), b < (i : Int) → sumU (Z.filter (fun z => !(z.1.1 == b))) i n = sumU Z i n
  | 0, _, _ => rfl
  | n + 1, i, h => by
    rw [sumU, sumU, atU_rest _ _ (by omega), sumU_rest b Z n (i + 1) (by omega)]
theorem cstU_all (K : Pc → Int) : ∀ (n i : Nat) (Z : Zp), (∀ z ∈ Z, (i : Int) ≤ z.1.1 ∧ z.1.1 < (i : Int) + n) → cstZ K Z = cstU K Z i n ∧ sumZ Z = sumU Z i n
  | 0, i, Z, h => by
    match Z with
    | [] => exact ⟨rfl, rfl⟩
    | z :: l => exact absurd (h z List.mem_cons_self) (by omega)
  | n + 1, i, Z, h => by
    have hr : ∀ z ∈ Z.filter (fun z => !(z.1.1 == (i : Int))), ((i + 1 : Nat) : Int) ≤ z.1.1 ∧ z.1.1 < ((i + 1 : Nat) : Int) + n := by
      intro z hz
      rw [List.mem_filter] at hz
      have h1 := h z hz.1
      have h2 := hz.2
      simp at h2
      omega
    have ih := cstU_all K n (i + 1) _ hr
    rw [cstU_rest K _ Z n (i + 1) (by omega), sumU_rest _ Z n (i + 1) (by omega)] at ih
    rw [cst_part K (fun z => z.1.1 == (i : Int)) Z, sum_part (fun z => z.1.1 == (i : Int)) Z, ih.1, ih.2]
    exact ⟨rfl, rfl⟩
theorem pieces_at (i : Nat) (u : S24) (us : List S24) (b : Bool) (bs : List Bool) (ho : ∀ x ∈ u :: us, OkU x) : (piecesOf i (u :: us) (b :: bs)).filter (fun p => p.1 == (i : Int)) = (if b then addS i u.f1 u.f2 else []) := by
  have hu := u_ok (ho u List.mem_cons_self) i
  have ht := pieces_mem (i + 1) us bs (fun x hx => good_of (ho x (List.mem_cons_of_mem _ hx)))
  have e : (piecesOf (i + 1) us bs).filter (fun p => p.1 == (i : Int)) = [] := by
    rw [List.filter_eq_nil_iff]
    intro p hp
    have := ht p hp
    simp
    omega
  rw [piecesOf, List.filter_append, e, List.append_nil]
  cases b with
  | false => rfl
  | true =>
    simp only [if_true]
    rw [List.filter_eq_self]
    intro p hp
    simp [(hu p hp).1]
theorem pieces_next (i : Nat) (u : S24) (us : List S24) (b : Bool) (bs : List Bool) (ho : ∀ x ∈ u :: us, OkU x) (a : Int) (ha : (i : Int) < a) : (piecesOf i (u :: us) (b :: bs)).filter (fun p => p.1 == a) = (piecesOf (i + 1) us bs).filter (fun p => p.1 == a) := by
  have hu := u_ok (ho u List.mem_cons_self) i
  have e : (if b then addS i u.f1 u.f2 else []).filter (fun p => p.1 == a) = [] := by
    rw [List.filter_eq_nil_iff]
    intro p hp
    cases b with
    | false => simp at hp
    | true =>
      have := (hu p hp).1
      simp
      omega
  rw [piecesOf, List.filter_append, e, List.nil_append]
theorem greedy_row {M : Int} (hM : 0 ≤ M) (w : Int → Int) (Z : Zp) (hok : okZ Z) : ∀ (i : Nat) (us : List S24) (bs : List Bool), (∀ u ∈ us, OkU u) → bs.length = us.length → (∀ a : Int, (i : Int) ≤ a → (Z.map (·.1)).filter (fun p => p.1 == a) = (piecesOf i us bs).filter (fun p => p.1 == a)) →
    KR M w i us (gRow i us bs Z) ≤ KR M w i us (baseL us bs) + cstU (KK M w) Z i us.length ∧ allR us bs (gRow i us bs Z) = true ∧ sumL (gRow i us bs Z) = leastF us bs + sumU Z i us.length
  | _, [], [], _, _, _ => by simp [KR, gRow, baseL, cstU, allR, sumL, leastF, sumU]
  | _, [], _ :: _, _, h, _ => by simp at h
  | _, _ :: _, [], _, h, _ => by simp at h
  | i, u :: us, b :: bs, ho, h1, hF => by
    have hu := ho u List.mem_cons_self
    have ih := greedy_row hM w Z hok (i + 1) us bs (fun x hx => ho x (List.mem_cons_of_mem _ hx)) (by simpa using h1) (fun a ha => by rw [hF a (by omega), pieces_next i u us b bs ho a (by omega)])
    have hZ : (atU i Z).map (·.1) = (if b then addS i u.f1 u.f2 else []) := by
      rw [← pieces_at i u us b bs ho, ← hF i (Int.le_refl _), List.filter_map]
      rfl
    have hoa : okZ (atU i Z) := fun z hz => hok z (List.mem_filter.1 hz).1
    rw [gRow, baseL, KR, KR, List.length_cons, cstU, sumU, allR, sumL, leastF]
    cases b with
    | false =>
      have hn : atU i Z = [] := by
        have : ((atU i Z).map (·.1)).length = 0 := by rw [hZ]; rfl
        exact List.eq_nil_of_length_eq_zero (by simpa using this)
      rw [hn]
      simp only [sumZ, cstZ]
      refine ⟨by simp; omega, by rw [ih.2.1]; simp [inR], by simp; omega⟩
    | true =>
      simp only [if_true] at hZ
      have hle := u_le hu hM w i hZ hoa
      refine ⟨by simp only [if_true]; omega, ?_, by simp only [if_true]; omega⟩
      rw [ih.2.1]
      simp only [if_true, inR, Bool.and_true, Bool.and_eq_true, decide_eq_true_eq]
      exact ⟨hle.1, hle.2.1⟩
theorem gRow_len : ∀ (i : Nat) (us : List S24) (bs : List Bool) (Z : Zp), bs.length = us.length → (gRow i us bs Z).length = us.length
  | _, [], _, _, _ => by simp [gRow]
  | _, _ :: _, [], _, h => by simp at h
  | i, u :: us, b :: bs, Z, h => by rw [gRow, List.length_cons, gRow_len (i + 1) us bs Z (by simpa using h), List.length_cons]
theorem gRow_get : ∀ (i : Nat) (us : List S24) (bs : List Bool) (Z : Zp) (j : Nat), bs.length = us.length → j < us.length → (gRow i us bs Z).getD j 0 = (baseL us bs).getD j 0 + sumZ (atU ((i + j : Nat) : Int) Z)
  | _, [], _, _, j, _, h => by simp at h
  | _, _ :: _, [], _, _, h, _ => by simp at h
  | i, u :: us, b :: bs, Z, 0, h, _ => by simp [gRow, baseL]
  | i, u :: us, b :: bs, Z, j + 1, h, hj => by
    have ih := gRow_get (i + 1) us bs Z j (by simpa using h) (by simpa using hj)
    rw [gRow, baseL, List.getD_cons_succ, List.getD_cons_succ, ih, show i + 1 + j = i + (j + 1) by omega]
theorem baseL_len : ∀ (us : List S24) (bs : List Bool), bs.length = us.length → (baseL us bs).length = us.length
  | [], _, _ => by simp [baseL]
  | _ :: _, [], h => by simp at h
  | u :: us, b :: bs, h => by rw [baseL, List.length_cons, baseL_len us bs (by simpa using h), List.length_cons]
theorem fillR_base : ∀ (us : List S24) (bs : List Bool) (pre : List Int), bs.length = us.length → fillR pre.length us bs (pre ++ List.replicate us.length 0) = pre ++ baseL us bs
  | [], [], pre, _ => by simp [fillR, baseL]
  | [], _ :: _, _, h => by simp at h
  | _ :: _, [], _, h => by simp at h
  | u :: us, b :: bs, pre, h => by
    have ih := fillR_base us bs (pre ++ [if b then u.f1 else 0]) (by simpa using h)
    rw [List.length_append, List.length_singleton] at ih
    rw [fillR, baseL, List.length_cons, List.replicate_succ]
    have e : (if b then (pre ++ 0 :: List.replicate us.length 0).set pre.length u.f1 else pre ++ 0 :: List.replicate us.length 0) = pre ++ [if b then u.f1 else 0] ++ List.replicate us.length 0 := by
      cases b
      · simp
      · simp only [if_true]
        rw [set_mid]
        simp
    rw [e, ih]
    simp
theorem takeP_len : ∀ (t : Int) (l : List Pc) (row : List Int), (takeP t l row).length = row.length
  | _, [], _ => rfl
  | t, p :: l, row => by rw [takeP, takeP_len, List.length_set]
theorem takeP_get : ∀ (t : Int) (l : List Pc) (row : List Int) (j : Nat), (∀ p ∈ l, 0 ≤ p.1 ∧ p.1 < (row.length : Int)) → j < row.length → (takeP t l row).getD j 0 = row.getD j 0 + sumZ (atU (j : Int) (fillZ t l))
  | _, [], row, j, _, _ => by simp [takeP, fillZ, sumZ]
  | t, p :: l, row, j, h, hj => by
    have hp := h p List.mem_cons_self
    have ih := takeP_get (t - mn t p.2.1) l (row.set p.1.toNat (rd row p.1 + mn t p.2.1)) j (fun q hq => by rw [List.length_set]; exact h q (List.mem_cons_of_mem _ hq)) (by rw [List.length_set]; exact hj)
    rw [takeP, ih, fillZ]
    by_cases e : p.1 = (j : Int)
    · have e2 : p.1.toNat = j := by omega
      have e3 : rd row p.1 = row.getD j 0 := by unfold YtelklgdmhnkenaaW.PrintWords.rd; rw [e2]
      rw [e2, e3]
      simp [atU, List.filter_cons, e, sumZ, List.getElem?_set, hj]
      omega
    · have e2 : p.1.toNat ≠ j := by omega
      simp [atU, List.filter_cons, e, List.getElem?_set, e2]
theorem totP_append : ∀ (a b : List Pc), totP (a ++ b) = totP a + totP b
  | [], b => by simp [totP]
  | p :: a, b => by rw [List.cons_append, totP, totP, totP_append]; omega
theorem totP_perm {a b : List Pc} (h : a.Perm b) : totP a = totP b := by
  induction h with
  | nil => rfl
  | cons x _ ih => rw [totP, totP, ih]
  | swap x y l => rw [totP, totP, totP, totP]; omega
  | trans _ _ h1 h2 => exact h1.trans h2
theorem tot_pieces : ∀ (i : Nat) (us : List S24) (bs : List Bool), (∀ u ∈ us, OkU u) → totP (piecesOf i us bs) = mostF us bs - leastF us bs
  | _, [], _, _ => by simp [piecesOf, totP, mostF, leastF]
  | _, _ :: _, [], _ => by simp [piecesOf, totP, mostF, leastF]
  | i, u :: us, b :: bs, h => by
    have hu := h u List.mem_cons_self
    have hb := okU_bnd hu
    have ih := tot_pieces (i + 1) us bs (fun x hx => h x (List.mem_cons_of_mem _ hx))
    rw [piecesOf, totP_append, ih, mostF, leastF]
    cases b with
    | false => simp [totP]
    | true =>
      simp only [if_true]
      rw [totS i u.f1 u.f2 hb.2.2.1 hu.min0 hu.min1]
      omega
theorem anti {ps : List Pc} (h : ps.Pairwise Pre) {a b : Pc} (ha : a ∈ ps) (hb : b ∈ ps) (h1 : lePc a b = true) (h2 : lePc b a = true) : a = b := by
  rw [lePc_t] at h1 h2
  rcases pre_or h a ha b hb with h | h | h
  · exact h
  · unfold Pre at h; omega
  · unfold Pre at h; omega
theorem srt_perm (ps : List Pc) : (srtP ps).Perm ps := List.mergeSort_perm ps lePc
theorem srt_pw (ps : List Pc) : (srtP ps).Pairwise (fun x y => lePc x y = true) := List.pairwise_mergeSort (by intro a b c h1 h2; rw [lePc_t] at *; omega) lePc_total ps
theorem srt_filter {ps : List Pc} (h : ps.Pairwise Pre) (a : Int) : (srtP ps).filter (fun p => p.1 == a) = ps.filter (fun p => p.1 == a) := by
  refine List.Perm.eq_of_pairwise (le := fun x y => lePc x y = true) ?_ ((srt_pw ps).filter _) ?_ ((srt_perm ps).filter _)
  · intro x y hx hy h1 h2
    exact anti h ((srt_perm ps).mem_iff.1 (List.mem_filter.1 hx).1) (List.mem_filter.1 hy).1 h1 h2
  · refine (h.filter _).imp_of_mem ?_
    intro x y hx hy hxy
    have h1 := (List.mem_filter.1 hx).2
    have h2 := (List.mem_filter.1 hy).2
    simp at h1 h2
    rw [lePc_t]
    unfold Pre at hxy
    omega
structure Wok (M : Int) (w : Int → Int) : Prop where
  m0 : 0 ≤ M
  dec : ∀ a b, 0 ≤ a → a ≤ b → b < 5 → w b ≤ w a
  bnd : ∀ a b, 0 ≤ a → a < 5 → 0 ≤ b → b < 5 → w a - w b ≤ M
theorem key_le {M : Int} {w : Int → Int} (hw : Wok M w) {x y : Pc} (hx : 0 ≤ x.1 ∧ x.1 < 5) (hy : 0 ≤ y.1 ∧ y.1 < 5) (h : lePc x y = true) : KK M w x ≤ KK M w y := by
  rw [lePc_t] at h
  unfold KK
  by_cases e : x.2.2 = y.2.2
  · have := hw.dec y.1 x.1 hy.1 (by omega) hx.2
    rw [e]
    omega
  · have hb := hw.bnd x.1 y.1 hx.1 hx.2 hy.1 hy.2
    have h1 : x.2.2 + 1 ≤ y.2.2 := by omega
    have := Int.mul_le_mul_of_nonneg_left h1 hw.m0
    rw [Int.mul_add, Int.mul_one] at this
    omega
theorem alloc_opt {l0 : List S24} {l1 : List Bool} {d : Int} (hc : ckF l0 l1 = 0) (h0 : leastF l0 l1 ≤ d) (h1 : d ≤ mostF l0 l1) :
    (allocRow l0 l1 (d - leastF l0 l1)).length = l0.length ∧ allR l0 l1 (allocRow l0 l1 (d - leastF l0 l1)) = true ∧ sumL (allocRow l0 l1 (d - leastF l0 l1)) = d ∧
    ∀ (M : Int) (w : Int → Int), Wok M w → ∀ r : List Int, r.length = l0.length → allR l0 l1 r = true → sumL r = d → KR M w 0 l0 (allocRow l0 l1 (d - leastF l0 l1)) ≤ KR M w 0 l0 r := by
  obtain ⟨h5, hl1, ho⟩ := ck_ok hc
  have hgood : ∀ u ∈ l0, goodU u = true := fun u hu => good_of (ho u hu)
  have hpre := pieces_pre 0 l0 l1 hgood
  have hmem := pieces_mem 0 l0 l1 hgood
  have hperm := srt_perm (piecesOf 0 l0 l1)
  have hmr : ∀ p ∈ srtP (piecesOf 0 l0 l1), 0 ≤ p.1 ∧ p.1 < (l0.length : Int) ∧ 0 < p.2.1 := by
    intro p hp
    have := hmem p (hperm.mem_iff.1 hp)
    omega
  have htot : totP (srtP (piecesOf 0 l0 l1)) = mostF l0 l1 - leastF l0 l1 := by rw [totP_perm hperm, tot_pieces 0 l0 l1 ho]
  have hq0 : ∀ p ∈ srtP (piecesOf 0 l0 l1), 0 ≤ p.2.1 := fun p hp => by have := hmr p hp; omega
  obtain ⟨left, hleft⟩ : ∃ x, x = d - leastF l0 l1 := ⟨_, rfl⟩
  rw [← hleft]
  have hok := fillZ_ok left (srtP (piecesOf 0 l0 l1)) (by omega) hq0
  have hsum := fillZ_sum left (srtP (piecesOf 0 l0 l1)) (by omega) (by omega) hq0
  have hfst := fillZ_fst left (srtP (piecesOf 0 l0 l1))
  have hrange : ∀ z ∈ fillZ left (srtP (piecesOf 0 l0 l1)), ((0 : Nat) : Int) ≤ z.1.1 ∧ z.1.1 < ((0 : Nat) : Int) + l0.length := by
    intro z hz
    have := hmr z.1 (mem_fst hfst hz)
    omega
  have hF : ∀ a : Int, ((0 : Nat) : Int) ≤ a → ((fillZ left (srtP (piecesOf 0 l0 l1))).map (·.1)).filter (fun p => p.1 == a) = (piecesOf 0 l0 l1).filter (fun p => p.1 == a) := fun a _ => by rw [hfst]; exact srt_filter hpre a
  have hbase : fillR 0 l0 l1 (List.replicate l0.length 0) = baseL l0 l1 := by
    have := fillR_base l0 l1 [] hl1
    simpa using this
  have hg : allocRow l0 l1 left = gRow 0 l0 l1 (fillZ left (srtP (piecesOf 0 l0 l1))) := by
    unfold allocRow
    rw [hbase]
    have hbl := baseL_len l0 l1 hl1
    have e1 : (takeP left (srtP (piecesOf 0 l0 l1)) (baseL l0 l1)).length = (gRow 0 l0 l1 (fillZ left (srtP (piecesOf 0 l0 l1)))).length := by rw [takeP_len, hbl, gRow_len 0 l0 l1 _ hl1]
    refine List.ext_getElem e1 fun j hj1 hj2 => ?_
    have hj : j < l0.length := by rw [takeP_len, hbl] at hj1; exact hj1
    have a1 := takeP_get left (srtP (piecesOf 0 l0 l1)) (baseL l0 l1) j (fun p hp => by rw [hbl]; have := hmr p hp; omega) (by rw [hbl]; exact hj)
    have a2 := gRow_get 0 l0 l1 (fillZ left (srtP (piecesOf 0 l0 l1))) j hl1 hj
    rw [Nat.zero_add, ← a1] at a2
    simp only [List.getD_eq_getElem?_getD, List.getElem?_eq_getElem hj1, List.getElem?_eq_getElem hj2, Option.getD_some] at a2
    exact a2.symm
  rw [hg]
  have hgr := fun (M : Int) (hM : 0 ≤ M) (w : Int → Int) => greedy_row hM w (fillZ left (srtP (piecesOf 0 l0 l1))) hok 0 l0 l1 ho hl1 hF
  have hg0 := hgr 0 (Int.le_refl _) (fun _ => 0)
  refine ⟨gRow_len 0 l0 l1 _ hl1, hg0.2.1, ?_, ?_⟩
  · have := (cstU_all (KK 0 (fun _ => 0)) l0.length 0 _ hrange).2
    rw [hg0.2.2, ← this, hsum]
    omega
  · intro M w hw r hrl hra hrs
    have h1 := (hgr M hw.m0 w).1
    rw [← (cstU_all (KK M w) l0.length 0 _ hrange).1] at h1
    obtain ⟨Zr, hz1, hz2, hz3, hz4⟩ := row_pieces M w 0 l0 l1 r ho hl1 hrl hra
    obtain ⟨Z', hp1, hp2⟩ := perm_lift hperm.symm Zr hz1
    have hpw : (Z'.map (·.1)).Pairwise (fun x y => KK M w x ≤ KK M w y) := by
      rw [hp2]
      refine (srt_pw _).imp_of_mem ?_
      intro x y hx hy hxy
      have a := hmr x hx
      have b := hmr y hy
      exact key_le hw (by omega) (by omega) hxy
    have hk := knap (KK M w) Z' hpw (fun z hz => hz2 z (hp1.mem_iff.1 hz))
    rw [hp2, cst_perm (KK M w) hp1, sum_perm hp1, show sumZ Zr = left by omega] at hk
    omega
end Go.Proofs.Ytelklgdmhnkenaa.U
namespace Go.Proofs.Ytelklgdmhnkenaa.U
attribute [local go_sem] max2_int min2_int max_two min_two max_three min_three max_four min_four
def pylonref28_Same.l0 : Nat → List Int → List Int → Int → Option (Bool)
 | 0, _, _, _ => none
 | k + 1, x0, x1, x5 => if x5 < (x0.length : Int) then (if 0 ≤ x5 then (if x5 < (x1.length : Int) then (if (rd x0 x5) = (rd x1 x5) then (pylonref28_Same.l0 k x0 x1 (wrap64 (x5 + 1))) else (some false)) else (none)) else (none)) else (some true)
def pylonref28_Same.f (k : Nat) (l0 : List Int) (l1 : List Int) : Option (Bool) := if (l0.length : Int) = (l1.length : Int) then (pylonref28_Same.l0 k l0 l1 0) else (some false)
set_option maxHeartbeats 8000000 in
set_option maxRecDepth 100000 in
theorem pylonref28_Same.calls (k : Nat) (A0 : Option Addr) (c0 : Nat) (l0 : List Int) (A1 : Option Addr) (c1 : Nat) (l1 : List Int) (r : Bool) (w : World) (hr0 : Kd.C (Kd.int .i64) w A0 l0.length l0) (hc0 : l0.length ≤ c0) (hr1 : Kd.C (Kd.int .i64) w A1 l1.length l1) (hc1 : l1.length ≤ c1) (h : pylonref28_Same.f k l0 l1 = some r) :
  Calls Try.prog 36 #[.slice A0 l0.length c0, .slice A1 l1.length c1] w fun e w' => e = .returned (.bool r) ∧ Drawn0 w w' := by
 have HR0 := Aside0.mk hr0
 clear hr0 hc0
 have HR1 := Aside0.mk hr1
 clear hr1 hc1
 have H : (if (l0.length : Int) = (l1.length : Int) then (pylonref28_Same.l0 k l0 l1 0) else (some false)) = some r := h
 clear h
 by_cases c3 : (l0.length : Int) = (l1.length : Int)
 ·rw [if_pos c3] at H
  have c3b1 : ((l0.length : Int) != (l1.length : Int)) = false := bne_eq_false_iff_eq.mpr c3
  clear c3
  have H' := Aside0.mk H
  clear H
  go_enter Try.func36, Try.ntmps36
  go_wp2
  repeat (go_quiet (fail); try go_wp2)
  go_loopg [5] k (fun kq v5 w' => ∃ (x5_1 : Int), v5 = .int .i64 x5_1 ∧ Aside0 (pylonref28_Same.l0 kq l0 l1 x5_1 = some r) ∧ Aside0 (kq ≤ k) ∧ Drawn0 w w')
  case atStart => exact ⟨(0), m_9, H', ⟨Nat.le_refl _⟩, m_28⟩
  case round =>
   clear H'
   (try clear c1); (try clear p2); (try clear c3); (try skip); (try clear c3b1); (try skip)
   obtain ⟨x5_1, rfl, HA, HK1, ⟨m1, rfl⟩⟩ := hrel
   cases gk with
   | zero => exact absurd HA.out (by simp [pylonref28_Same.l0])
   | succ k1 =>
    have H := HA.out
    clear HA
    simp only [pylonref28_Same.l0] at H
    by_cases c4 : x5_1 < (l0.length : Int)
    ·rw [if_pos c4] at H
     have c4b0 : decide (x5_1 < (l0.length : Int)) = true := decide_eq_true c4
     clear c4
     by_cases c5 : 0 ≤ x5_1
     ·rw [if_pos c5] at H
      have c5b0 : decide (0 ≤ x5_1) = true := decide_eq_true c5
      clear c5
      by_cases c6 : x5_1 < (l1.length : Int)
      ·rw [if_pos c6] at H
       have c6b0 : decide (x5_1 < (l1.length : Int)) = true := decide_eq_true c6
       clear c6
       by_cases c7 : (rd l0 x5_1) = (rd l1 x5_1)
       ·rw [if_pos c7] at H
        have c7b1 : ((rd l0 x5_1) != (rd l1 x5_1)) = false := bne_eq_false_iff_eq.mpr c7
        clear c7
        have H' := Aside0.mk H
        clear H
        have p734 : 0 ≤ (x5_1 : Int) := of_decide_eq_true m_4
        have q734 : x5_1 < (l0.length : Int) := of_decide_eq_true m_4
        obtain ⟨ad734, e734, hx734_0⟩ := Kd.at_int HR0.out x5_1 p734 q734
        cases e734
        replace p734 := eq_true p734
        replace q734 := eq_true q734
        have p735 : 0 ≤ (x5_1 : Int) := of_decide_eq_true m_4
        have q735 : x5_1 < (l1.length : Int) := of_decide_eq_true m_4
        obtain ⟨ad735, e735, hx735_0⟩ := Kd.at_int HR1.out x5_1 p735 q735
        cases e735
        replace q735 := eq_true q735
        go_wp2
        repeat (go_quiet (fail); try go_wp2)
        go_roundg k1
        case measure => have := HK1.out; omega
        case rel => exact ⟨(wrap64 (x5_1 + 1)), m_9, H', ⟨m_119⟩, m_28⟩
       ·rw [if_neg c7] at H
        have c7b1 : ((rd l0 x5_1) != (rd l1 x5_1)) = true := bne_iff_ne.mpr c7
        obtain rfl := Option.some.inj H
        have p734 : 0 ≤ (x5_1 : Int) := of_decide_eq_true m_4
        have q734 : x5_1 < (l0.length : Int) := of_decide_eq_true m_4
        obtain ⟨ad734, e734, hx734_0⟩ := Kd.at_int HR0.out x5_1 p734 q734
        cases e734
        replace p734 := eq_true p734
        replace q734 := eq_true q734
        have p735 : 0 ≤ (x5_1 : Int) := of_decide_eq_true m_4
        have q735 : x5_1 < (l1.length : Int) := of_decide_eq_true m_4
        obtain ⟨ad735, e735, hx735_0⟩ := Kd.at_int HR1.out x5_1 p735 q735
        cases e735
        replace q735 := eq_true q735
        go_wp2
        repeat (go_quiet (fail); try go_wp2)
        go_ret
        exact ⟨m_9, m_28⟩
      ·rw [if_neg c6] at H
       exact absurd H (by simp)
     ·rw [if_neg c5] at H
      exact absurd H (by simp)
    ·rw [if_neg c4] at H
     have c4b0 : decide (x5_1 < (l0.length : Int)) = false := decide_eq_false c4
     clear c4
     obtain rfl := Option.some.inj H
     go_wp2
     repeat (go_quiet (fail); try go_wp2)
     go_ret
     exact ⟨m_9, m_28⟩
 ·rw [if_neg c3] at H
  have c3b1 : ((l0.length : Int) != (l1.length : Int)) = true := bne_iff_ne.mpr c3
  obtain rfl := Option.some.inj H
  go_enter Try.func36, Try.ntmps36
  go_wp2
  repeat (go_quiet (fail); try go_wp2)
  go_ret
  exact ⟨m_9, m_28⟩
end Go.Proofs.Ytelklgdmhnkenaa.U
namespace Go.Proofs.Ytelklgdmhnkenaa.U
attribute [local go_sem] max2_int min2_int max_two min_two max_three min_three max_four min_four
def pylonlaw28_gives.f (k : Nat) (l0 : List (S24)) (l1 : List Bool) (a2 : Int) (a3 : Int) (l4 : List Int) : Option (Bool) := (energy_Allocate.f k l0 l1 a2).bind fun bt736 => ((energy_LeastCost.f k l0 l1 a2).bind fun bt740 => ((energy_Cost.f k l0 l1 l4).bind fun bt742 => (if bt736.2 = 0 then (if bt740.2 = 0 then (if bt742.2 = 0 then (if bt740.1 = a3 then (if bt742.1 = a3 then ((pylonref28_Same.f k bt736.1 l4).bind fun t744 => (some t744)) else (none)) else (none)) else (none)) else (none)) else (none))))
set_option maxHeartbeats 8000000 in
set_option maxRecDepth 100000 in
theorem pylonlaw28_gives.calls (k : Nat) (A0 : Option Addr) (c0 : Nat) (l0 : List (S24)) (A1 : Option Addr) (c1 : Nat) (l1 : List Bool) (a2 : Int) (a3 : Int) (A4 : Option Addr) (c4 : Nat) (l4 : List Int) (r : Bool) (w : World) (hr0 : Kd.C k24 w A0 l0.length l0) (hc0 : l0.length ≤ c0) (hr1 : Kd.C Kd.bool w A1 l1.length l1) (hc1 : l1.length ≤ c1) (hr4 : Kd.C (Kd.int .i64) w A4 l4.length l4) (hc4 : l4.length ≤ c4) (h : pylonlaw28_gives.f k l0 l1 a2 a3 l4 = some r) :
  Calls Try.prog 53 #[.slice A0 l0.length c0, .slice A1 l1.length c1, .int .i64 a2, .int .i64 a3, .slice A4 l4.length c4] w fun e w' => e = .returned (.bool r) ∧ Below w.heap.size w w' := by
 have HR0 := Aside0.mk hr0
 have HC0 := Aside0.mk hc0
 clear hr0 hc0
 have HR1 := Aside0.mk hr1
 have HC1 := Aside0.mk hc1
 clear hr1 hc1
 have HR4 := Aside0.mk hr4
 have HC4 := Aside0.mk hc4
 clear hr4 hc4
 have HB := Aside0.mk (Below.refl w.heap.size w)
 have H : ((energy_Allocate.f k l0 l1 a2).bind fun bt736 => ((energy_LeastCost.f k l0 l1 a2).bind fun bt740 => ((energy_Cost.f k l0 l1 l4).bind fun bt742 => (if bt736.2 = 0 then (if bt740.2 = 0 then (if bt742.2 = 0 then (if bt740.1 = a3 then (if bt742.1 = a3 then ((pylonref28_Same.f k bt736.1 l4).bind fun t744 => (some t744)) else (none)) else (none)) else (none)) else (none)) else (none))))) = some r := h
 clear h
 replace H := Option.bind_eq_some_iff.mp H
 obtain ⟨⟨t736, t737⟩, A60, H⟩ := H
 replace H : ((energy_LeastCost.f k l0 l1 a2).bind fun bt740 => ((energy_Cost.f k l0 l1 l4).bind fun bt742 => (if t737 = 0 then (if bt740.2 = 0 then (if bt742.2 = 0 then (if bt740.1 = a3 then (if bt742.1 = a3 then ((pylonref28_Same.f k t736 l4).bind fun t744 => (some t744)) else (none)) else (none)) else (none)) else (none)) else (none)))) = some r := H
 have A6 := Aside0.mk A60
 clear A60
 replace H := Option.bind_eq_some_iff.mp H
 obtain ⟨⟨t740, t741⟩, A70, H⟩ := H
 replace H : ((energy_Cost.f k l0 l1 l4).bind fun bt742 => (if t737 = 0 then (if t741 = 0 then (if bt742.2 = 0 then (if t740 = a3 then (if bt742.1 = a3 then ((pylonref28_Same.f k t736 l4).bind fun t744 => (some t744)) else (none)) else (none)) else (none)) else (none)) else (none))) = some r := H
 have A7 := Aside0.mk A70
 clear A70
 replace H := Option.bind_eq_some_iff.mp H
 obtain ⟨⟨t742, t743⟩, A80, H⟩ := H
 replace H : (if t737 = 0 then (if t741 = 0 then (if t743 = 0 then (if t740 = a3 then (if t742 = a3 then ((pylonref28_Same.f k t736 l4).bind fun t744 => (some t744)) else (none)) else (none)) else (none)) else (none)) else (none)) = some r := H
 have A8 := Aside0.mk A80
 clear A80
 by_cases c9 : t737 = 0
 ·rw [if_pos c9] at H
  have c9b0 : (t737 == 0) = true := beq_iff_eq.mpr c9
  clear c9
  by_cases c10 : t741 = 0
  ·rw [if_pos c10] at H
   have c10b0 : (t741 == 0) = true := beq_iff_eq.mpr c10
   clear c10
   by_cases c11 : t743 = 0
   ·rw [if_pos c11] at H
    have c11b0 : (t743 == 0) = true := beq_iff_eq.mpr c11
    clear c11
    by_cases c12 : t740 = a3
    ·rw [if_pos c12] at H
     have c12b0 : (t740 == a3) = true := beq_iff_eq.mpr c12
     clear c12
     by_cases c13 : t742 = a3
     ·rw [if_pos c13] at H
      have c13b0 : (t742 == a3) = true := beq_iff_eq.mpr c13
      clear c13
      replace H := Option.bind_eq_some_iff.mp H
      obtain ⟨t744, A140, H⟩ := H
      replace H : (some t744) = some r := H
      have A14 := Aside0.mk A140
      clear A140
      obtain rfl := Option.some.inj H
      go_enter Try.func53, Try.ntmps53
      go_wp2_with (first | ((with_reducible refine gate_callee (f := 32) rfl ?_); refine goesL_ (some 21) rfl rfl Try.func32 m_13 rfl #[.slice A0 l0.length c0, .slice A1 l1.length c1, .int .i64 a2] rfl m_2 ?_; (with_reducible refine (energy_Allocate.calls k _ _ l0 _ _ l1 a2 t736 t737 _ ?side1 ?side2 ?side3 ?side4 A6.out).mono ?_); (case side1 => exact cA_ HR0.out); (case side2 => exact HC0.out); (case side3 => exact cA_ HR1.out); (case side4 => exact HC1.out); rintro e w15 ⟨v738, rfl, ho0, hb⟩; refine ⟨_, rfl, ?_⟩; have HO739 := Aside0.mk (Kd.R_lower ho0 (below_size m_1)); replace HB := Aside0.mk (below_step m_1 hb); clear hb; (try clear ho0)) | ((with_reducible refine gate_callee (f := 33) rfl ?_); refine goesL_ (some 28) rfl rfl Try.func33 m_13 rfl #[.slice A0 l0.length c0, .slice A1 l1.length c1, .int .i64 a2] rfl m_2 ?_; (with_reducible refine (energy_LeastCost.calls k _ _ l0 _ _ l1 a2 t740 t741 _ ?side1 ?side2 ?side3 ?side4 A7.out).mono ?_); (case side1 => exact cA_ (Kd.C_below HR0.out HB.out)); (case side2 => exact HC0.out); (case side3 => exact cA_ (Kd.C_below HR1.out HB.out)); (case side4 => exact HC1.out); rintro e w16 ⟨rfl, hb⟩; refine ⟨_, rfl, ?_⟩; replace HO739 := rB_ HO739 hb; replace HB := Aside0.mk (below_step m_1 hb); clear hb) | ((with_reducible refine gate_callee (f := 31) rfl ?_); refine goesL_ (some 35) rfl rfl Try.func31 m_13 rfl #[.slice A0 l0.length c0, .slice A1 l1.length c1, .slice A4 l4.length c4] rfl m_2 ?_; (with_reducible refine (energy_Cost.calls k _ _ l0 _ _ l1 _ _ l4 t742 t743 _ ?side1 ?side2 ?side3 ?side4 ?side5 ?side6 A8.out).mono ?_); (case side1 => exact cA_ (Kd.C_below HR0.out HB.out)); (case side2 => exact HC0.out); (case side3 => exact cA_ (Kd.C_below HR1.out HB.out)); (case side4 => exact HC1.out); (case side5 => exact cA_ (Kd.C_below HR4.out HB.out)); (case side6 => exact HC4.out); rintro e w17 ⟨rfl, hb⟩; refine ⟨_, rfl, ?_⟩; replace HO739 := rB_ HO739 hb; replace HB := Aside0.mk (below_step m_1 hb); clear hb; obtain ⟨Ao18, co18, eo18⟩ := Kd.R_slice HO739.out; subst eo18) | (go_at_call 36; (with_reducible refine (pylonref28_Same.calls k _ _ t736 _ _ l4 t744 _ ?side1 ?side2 ?side3 ?side4 A14.out).mono ?_); (case side1 => exact cA_ (Kd.R_reads' HO739.out).2.2); (case side2 => exact (Kd.R_reads' HO739.out).2.1); (case side3 => exact cA_ (Kd.C_below HR4.out HB.out)); (case side4 => exact HC4.out); rintro e w' ⟨rfl, ⟨nd, rfl⟩⟩))
      go_ret
      exact ⟨m_5, m_1⟩
     ·rw [if_neg c13] at H
      cases H
    ·rw [if_neg c12] at H
     cases H
   ·rw [if_neg c11] at H
    cases H
  ·rw [if_neg c10] at H
   cases H
 ·rw [if_neg c9] at H
  cases H
end Go.Proofs.Ytelklgdmhnkenaa.U
