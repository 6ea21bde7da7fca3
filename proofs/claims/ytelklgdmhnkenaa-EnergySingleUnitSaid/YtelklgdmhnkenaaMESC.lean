/- Parts of the proof: Uxf100, Uxf102, PlainO, GivenH, GivenK, GivenL, UxK61, UxK79, UxK62, GivenO, Uxf60, Uxf38, Uxf54, Uxf45, Uxf58, Uxf37. -/
import Derived.Test.YtelklgdmhnkenaaMESA
import Derived.Test.YtelklgdmhnkenaaMESB
import Derived.WideMake
import Derived.MapKept
set_option linter.unusedVariables false
set_option linter.unusedSimpArgs false
open Go.RowKit Go.Proofs.YtelklgdmhnkenaaW.PrintWords Go.Proofs.YtelklgdmhnkenaaW.PrintLast Go.Proofs.YtelklgdmhnkenaaW.PrintMore
namespace Go.Proofs.Ytelklgdmhnkenaa.U
attribute [local go_sem] max2_int min2_int max_two min_two max_three min_three max_four min_four
def frac_does_2.f (k : Nat) (a0_0 : Bool) (l0_1 : List Int) (a0_2 : Bool) (l0_3 : List Int) (a1_0 : Bool) (l1_1 : List Int) (a1_2 : Bool) (l1_3 : List Int) : Option (Bool × List Int × Bool × List Int) := (whole_Mul.f k a0_0 l0_1 a1_2 l1_3).bind fun bt195 => ((whole_Mul.f k a1_0 l1_1 a0_2 l0_3).bind fun bt199 => ((whole_Sub.f k bt195.1 bt195.2 bt199.1 bt199.2).bind fun bt203 => ((whole_Mul.f k a0_2 l0_3 a1_2 l1_3).bind fun bt207 => (some (bt203.1, bt203.2, bt207.1, bt207.2)))))
def frac_does_2.T1 : Bool × List (List Nat × List Nat) := (true, [([], []), ([0], [0]), ([], []), ([2], [2]), ([1, 3], [1, 3]), ([], []), ([5], [5]), ([], []), ([7], [7]), ([6, 8, 4], [6, 8]), ([4, 9, 9], [4, 9]), ([], []), ([11], [11]), ([], []), ([13], [13]), ([12, 14, 10], [12, 14]), ([10, 15], [10, 15]), ([16, 15, 0, 1, 2, 3, 4, 5, 6, 7, 8, 9, 10, 11, 12, 13, 14, 15, 16], [16])])
def frac_does_2.B1 : List Nat := [0, 1, 0, 4, 15, 0, 32, 0, 128, 511, 1023, 0, 2048, 0, 8192, 32767, 65535, 131071]
theorem frac_does_2.tab1 : rtab .any (opsOf Try.f100 1) = frac_does_2.T1 := by kernel_rfl
theorem frac_does_2.bits1 : waitsOk frac_does_2.T1.2 frac_does_2.B1 = true := by kernel_rfl
set_option maxHeartbeats 8000000 in
set_option maxRecDepth 100000 in
theorem frac_does_2.calls (k : Nat) (a0_0 : Bool) (P0_1_ : Nat → Prop) (A0_1 : Option Addr) (c0_1 : Nat) (l0_1 : List Int) (a0_2 : Bool) (P0_3_ : Nat → Prop) (A0_3 : Option Addr) (c0_3 : Nat) (l0_3 : List Int) (a1_0 : Bool) (P1_1_ : Nat → Prop) (A1_1 : Option Addr) (c1_1 : Nat) (l1_1 : List Int) (a1_2 : Bool) (P1_3_ : Nat → Prop) (A1_3 : Option Addr) (c1_3 : Nat) (l1_3 : List Int) (r1 : Bool) (r2 : List Int) (r3 : Bool) (r4 : List Int) (w : World) (hs0_1 : Kd.V (Kd.int .u32) 117 w w.heap.size (fun k_ => P0_1_ k_) (.slice A0_1 l0_1.length c0_1) l0_1) (hs0_3 : Kd.V (Kd.int .u32) 117 w w.heap.size (fun k_ => P0_3_ k_) (.slice A0_3 l0_3.length c0_3) l0_3) (hs1_1 : Kd.V (Kd.int .u32) 117 w w.heap.size (fun k_ => P1_1_ k_) (.slice A1_1 l1_1.length c1_1) l1_1) (hs1_3 : Kd.V (Kd.int .u32) 117 w w.heap.size (fun k_ => P1_3_ k_) (.slice A1_3 l1_3.length c1_3) l1_3) (h : frac_does_2.f k a0_0 l0_1 a0_2 l0_3 a1_0 l1_1 a1_2 l1_3 = some (r1, r2, r3, r4)) :
  Calls Try.prog 100 #[.agg #[.bool a0_0, .slice A0_1 l0_1.length c0_1, .bool a0_2, .slice A0_3 l0_3.length c0_3], .agg #[.bool a1_0, .slice A1_1 l1_1.length c1_1, .bool a1_2, .slice A1_3 l1_3.length c1_3]] w fun e w' => ∃ v1_ v3_ : Value, e = .returned (.agg #[.bool r1, v1_, .bool r3, v3_]) ∧ Kd.V (Kd.int .u32) 117 w' w.heap.size (fun k_ => ((P0_1_ k_ ∨ P0_3_ k_ ∨ P1_1_ k_ ∨ P1_3_ k_) ∨ w.heap.size ≤ k_)) v1_ r2 ∧ Kd.V (Kd.int .u32) 117 w' w.heap.size (fun k_ => ((P0_1_ k_ ∨ P0_3_ k_ ∨ P1_1_ k_ ∨ P1_3_ k_) ∨ w.heap.size ≤ k_)) v3_ r4 ∧ Below w.heap.size w w' := by
 have HO0_1 := Aside0.mk (show Kd.V (Kd.int .u32) 117 w w.heap.size (fun k_ => ((P0_1_ k_ ∨ P0_3_ k_ ∨ P1_1_ k_ ∨ P1_3_ k_) ∨ w.heap.size ≤ k_)) (.slice A0_1 l0_1.length c0_1) l0_1 from Kd.V_mono hs0_1 (fun k_ hk => .inl (.inl hk)))
 have HO0_3 := Aside0.mk (show Kd.V (Kd.int .u32) 117 w w.heap.size (fun k_ => ((P0_1_ k_ ∨ P0_3_ k_ ∨ P1_1_ k_ ∨ P1_3_ k_) ∨ w.heap.size ≤ k_)) (.slice A0_3 l0_3.length c0_3) l0_3 from Kd.V_mono hs0_3 (fun k_ hk => .inl (.inr (.inl hk))))
 have HO1_1 := Aside0.mk (show Kd.V (Kd.int .u32) 117 w w.heap.size (fun k_ => ((P0_1_ k_ ∨ P0_3_ k_ ∨ P1_1_ k_ ∨ P1_3_ k_) ∨ w.heap.size ≤ k_)) (.slice A1_1 l1_1.length c1_1) l1_1 from Kd.V_mono hs1_1 (fun k_ hk => .inl (.inr (.inr (.inl hk)))))
 have HO1_3 := Aside0.mk (show Kd.V (Kd.int .u32) 117 w w.heap.size (fun k_ => ((P0_1_ k_ ∨ P0_3_ k_ ∨ P1_1_ k_ ∨ P1_3_ k_) ∨ w.heap.size ≤ k_)) (.slice A1_3 l1_3.length c1_3) l1_3 from Kd.V_mono hs1_3 (fun k_ hk => .inl (.inr (.inr (.inr hk)))))
 have HB := Aside0.mk (Below.refl w.heap.size w)
 have H : ((whole_Mul.f k a0_0 l0_1 a1_2 l1_3).bind fun bt195 => ((whole_Mul.f k a1_0 l1_1 a0_2 l0_3).bind fun bt199 => ((whole_Sub.f k bt195.1 bt195.2 bt199.1 bt199.2).bind fun bt203 => ((whole_Mul.f k a0_2 l0_3 a1_2 l1_3).bind fun bt207 => (some (bt203.1, bt203.2, bt207.1, bt207.2)))))) = some (r1, r2, r3, r4) := h
 clear h
 replace H := Option.bind_eq_some_iff.mp H
 obtain ⟨⟨t195, t196⟩, A30, H⟩ := H
 replace H : ((whole_Mul.f k a1_0 l1_1 a0_2 l0_3).bind fun bt199 => ((whole_Sub.f k t195 t196 bt199.1 bt199.2).bind fun bt203 => ((whole_Mul.f k a0_2 l0_3 a1_2 l1_3).bind fun bt207 => (some (bt203.1, bt203.2, bt207.1, bt207.2))))) = some (r1, r2, r3, r4) := H
 have A3 := Aside0.mk A30
 clear A30
 replace H := Option.bind_eq_some_iff.mp H
 obtain ⟨⟨t199, t200⟩, A40, H⟩ := H
 replace H : ((whole_Sub.f k t195 t196 t199 t200).bind fun bt203 => ((whole_Mul.f k a0_2 l0_3 a1_2 l1_3).bind fun bt207 => (some (bt203.1, bt203.2, bt207.1, bt207.2)))) = some (r1, r2, r3, r4) := H
 have A4 := Aside0.mk A40
 clear A40
 replace H := Option.bind_eq_some_iff.mp H
 obtain ⟨⟨t203, t204⟩, A50, H⟩ := H
 replace H : ((whole_Mul.f k a0_2 l0_3 a1_2 l1_3).bind fun bt207 => (some (t203, t204, bt207.1, bt207.2))) = some (r1, r2, r3, r4) := H
 have A5 := Aside0.mk A50
 clear A50
 replace H := Option.bind_eq_some_iff.mp H
 obtain ⟨⟨t207, t208⟩, A60, H⟩ := H
 replace H : (some (t203, t204, t207, t208)) = some (r1, r2, r3, r4) := H
 have A6 := Aside0.mk A60
 clear A60
 simp only [Option.some.injEq, Prod.mk.injEq] at H
 obtain ⟨rfl, rfl, rfl, rfl⟩ := H
 go_enter Try.func100, Try.ntmps100
 try go_wp2_with (first | ((with_reducible refine gate_dst (N := 2) rfl ?_); refine box_event ?hg (N := 2) ?hd (cs := #[.bool a0_0, .slice A0_1 l0_1.length c0_1, .bool a0_2, .slice A0_3 l0_3.length c0_3]) (t := 120) ?hr ?_; (case hd => rfl); (case hg => rfl); (case hr => exact hr_); intro gb192 hg w7 hbox hb; have BK192 := Aside0.mk (hbox); replace HO0_1 := vE_ HO0_1 hg hb; replace HO0_3 := vE_ HO0_3 hg hb; replace HO1_1 := vE_ HO1_1 hg hb; replace HO1_3 := vE_ HO1_3 hg hb; replace HB := Aside0.mk (below_step m_1 hb); clear hb hbox hg) | ((with_reducible refine gate_dst (N := 3) rfl ?_); refine box_event ?hg (N := 3) ?hd (cs := #[.bool a1_0, .slice A1_1 l1_1.length c1_1, .bool a1_2, .slice A1_3 l1_3.length c1_3]) (t := 120) ?hr ?_; (case hd => rfl); (case hg => rfl); (case hr => exact hr_); intro gb193 hg w8 hbox hb; have BK193 := Aside0.mk (hbox); replace HO0_1 := vE_ HO0_1 hg hb; replace HO0_3 := vE_ HO0_3 hg hb; replace HO1_1 := vE_ HO1_1 hg hb; replace HO1_3 := vE_ HO1_3 hg hb; replace BK192 := bB_ BK192 hb; replace HB := Aside0.mk (below_step m_110 hb); clear hb hbox hg) | ((with_reducible refine gate_dst (N := 4) rfl ?_); refine box_event ?hg (N := 4) ?hd (cs := #[.bool false, .slice none 0 0, .bool false, .slice none 0 0]) (t := 120) ?hr ?_; (case hd => rfl); (case hg => rfl); (case hr => exact hr_); intro gb194 hg w9 hbox hb; have BK194 := Aside0.mk (hbox); have GE194 := gW_ (w := w) hg m_89; have NB192_194 := nl_ BK192 hg; have NB193_194 := nl_ BK193 hg; replace HO0_1 := vE_ HO0_1 hg hb; replace HO0_3 := vE_ HO0_3 hg hb; replace HO1_1 := vE_ HO1_1 hg hb; replace HO1_3 := vE_ HO1_3 hg hb; replace BK192 := bB_ BK192 hb; replace BK193 := bB_ BK193 hb; replace HB := Aside0.mk (below_step m_89 hb); clear hb hbox hg))
 replace HO0_1 := vD_ HO0_1
 replace HO0_3 := vD_ HO0_3
 replace HO1_1 := vD_ HO1_1
 replace HO1_3 := vD_ HO1_3
 replace BK192 := bD_ BK192
 replace BK193 := bD_ BK193
 replace BK194 := bD_ BK194
 replace HB := Aside0.mk (below_drew1 HB.out)
 refine start_ (n := 18) (S := fun w' => w'.cell? ⟨gb192, 0, none⟩ = some (.bool a0_0) ∧ w'.cell? ⟨gb192, 1, none⟩ = some (.slice A0_1 l0_1.length c0_1) ∧ w'.cell? ⟨gb192, 2, none⟩ = some (.bool a0_2) ∧ w'.cell? ⟨gb192, 3, none⟩ = some (.slice A0_3 l0_3.length c0_3) ∧ w'.cell? ⟨gb193, 0, none⟩ = some (.bool a1_0) ∧ w'.cell? ⟨gb193, 1, none⟩ = some (.slice A1_1 l1_1.length c1_1) ∧ w'.cell? ⟨gb193, 2, none⟩ = some (.bool a1_2) ∧ w'.cell? ⟨gb193, 3, none⟩ = some (.slice A1_3 l1_3.length c1_3)) (ds := []) #[false, false, false, false, false, false, false, false, false, false, false, false, false, false, false, false, false, false] m_13 rfl rfl ⟨(blk_cell BK192.out 0).trans rfl, (blk_cell BK192.out 1).trans rfl, (blk_cell BK192.out 2).trans rfl, (blk_cell BK192.out 3).trans rfl, (blk_cell BK193.out 0).trans rfl, (blk_cell BK193.out 1).trans rfl, (blk_cell BK193.out 2).trans rfl, (blk_cell BK193.out 3).trans rfl⟩ (fun hHeld => ?_); refine with_tabW frac_does_2.tab1 frac_does_2.bits1 (fun HT_ HW_ => ?_)
 generalize w9.drew = w10 at HO0_1 HO0_3 HO1_1 HO1_3 BK192 BK193 BK194 HB hHeld ⊢
 refine pA_ 0 HT_.out ?_
 refine pA_ 2 HT_.out ?_
 refine pA_ 5 HT_.out ?_
 refine pA_ 7 HT_.out ?_
 refine pA_ 11 HT_.out ?_
 refine pA_ 13 HT_.out ?_
 refine tA_ 1 HT_.out HW_.out hHeld ?_
 refine tA_ 3 HT_.out HW_.out hHeld ?_
 refine tA_ 6 HT_.out HW_.out hHeld ?_
 refine tA_ 8 HT_.out HW_.out hHeld ?_
 refine tA_ 12 HT_.out HW_.out hHeld ?_
 refine tA_ 14 HT_.out HW_.out hHeld ?_
 refine cB_1 4 Try.func84 (args := #[.agg #[.bool a0_0, .slice A0_1 l0_1.length c0_1], .agg #[.bool a1_2, .slice A1_3 l1_3.length c1_3]]) ?_
 with_reducible refine (whole_Mul.calls k a0_0 (fun k_ => (((((P0_1_ k_ ∨ P0_3_ k_ ∨ P1_1_ k_ ∨ P1_3_ k_) ∨ w.heap.size ≤ k_) ∧ k_ ≠ gb192) ∧ k_ ≠ gb193) ∧ k_ ≠ gb194)) _ _ l0_1 a1_2 (fun k_ => (((((P0_1_ k_ ∨ P0_3_ k_ ∨ P1_1_ k_ ∨ P1_3_ k_) ∨ w.heap.size ≤ k_) ∧ k_ ≠ gb192) ∧ k_ ≠ gb193) ∧ k_ ≠ gb194)) _ _ l1_3 t195 t196 _ ?side1 ?side2 A3.out).mono ?_
 (case side1 => exact HO0_1.out)
 (case side2 => exact HO1_3.out)
 rintro e w11 ⟨v197, rfl, ho0, hb⟩
 refine ⟨_, rfl, ?_⟩
 have HO198 := Aside0.mk (Kd.V_lower (Kd.V_mono (ok' := fun k_ => ((P0_1_ k_ ∨ P0_3_ k_ ∨ P1_1_ k_ ∨ P1_3_ k_) ∨ w.heap.size ≤ k_) ∧ k_ ≠ gb192 ∧ k_ ≠ gb193 ∧ k_ ≠ gb194) ho0 (fun k_ hk_ => ⟨Or.elim hk_ (fun hs_ => Or.elim hs_ (fun hs_ => hs_.1.1.1) (fun hs_ => hs_.1.1.1)) (fun hn_ => (.inr (Nat.le_trans (below_size m_21) hn_))), Or.elim hk_ (fun hs_ => Or.elim hs_ (fun hs_ => hs_.1.1.2) (fun hs_ => hs_.1.1.2)) (fun hn_ => (Kd.freshB (bA_ BK192.out) k_ hn_)), Or.elim hk_ (fun hs_ => Or.elim hs_ (fun hs_ => hs_.1.2) (fun hs_ => hs_.1.2)) (fun hn_ => (Kd.freshB (bA_ BK193.out) k_ hn_)), Or.elim hk_ (fun hs_ => Or.elim hs_ (fun hs_ => hs_.2) (fun hs_ => hs_.2)) (fun hn_ => (Kd.freshB (bA_ BK194.out) k_ hn_))⟩)) (below_size m_21))
 replace HO0_3 := vB_ HO0_3 hb
 replace HO1_1 := vB_ HO1_1 hb
 replace HO1_3 := vB_ HO1_3 hb
 replace BK192 := bB_ BK192 hb
 replace BK193 := bB_ BK193 hb
 replace BK194 := bB_ BK194 hb
 replace HB := Aside0.mk (below_step m_21 hb)
 (try clear hb); (try clear hb2); (try clear hk); (try clear hi); (try clear ho0)
 refine nx_ ⟨(blk_cell BK192.out 0).trans rfl, (blk_cell BK192.out 1).trans rfl, (blk_cell BK192.out 2).trans rfl, (blk_cell BK192.out 3).trans rfl, (blk_cell BK193.out 0).trans rfl, (blk_cell BK193.out 1).trans rfl, (blk_cell BK193.out 2).trans rfl, (blk_cell BK193.out 3).trans rfl⟩ (fun hHeld => ?_)
 refine cB_1 9 Try.func84 (args := #[.agg #[.bool a1_0, .slice A1_1 l1_1.length c1_1], .agg #[.bool a0_2, .slice A0_3 l0_3.length c0_3]]) ?_
 with_reducible refine (whole_Mul.calls k a1_0 (fun k_ => (((((P0_1_ k_ ∨ P0_3_ k_ ∨ P1_1_ k_ ∨ P1_3_ k_) ∨ w.heap.size ≤ k_) ∧ k_ ≠ gb192) ∧ k_ ≠ gb193) ∧ k_ ≠ gb194)) _ _ l1_1 a0_2 (fun k_ => (((((P0_1_ k_ ∨ P0_3_ k_ ∨ P1_1_ k_ ∨ P1_3_ k_) ∨ w.heap.size ≤ k_) ∧ k_ ≠ gb192) ∧ k_ ≠ gb193) ∧ k_ ≠ gb194)) _ _ l0_3 t199 t200 _ ?side1 ?side2 A4.out).mono ?_
 (case side1 => exact HO1_1.out)
 (case side2 => exact HO0_3.out)
 rintro e w12 ⟨v201, rfl, ho0, hb⟩
 refine ⟨_, rfl, ?_⟩
 have HO202 := Aside0.mk (Kd.V_lower (Kd.V_mono (ok' := fun k_ => ((P0_1_ k_ ∨ P0_3_ k_ ∨ P1_1_ k_ ∨ P1_3_ k_) ∨ w.heap.size ≤ k_) ∧ k_ ≠ gb192 ∧ k_ ≠ gb193 ∧ k_ ≠ gb194) ho0 (fun k_ hk_ => ⟨Or.elim hk_ (fun hs_ => Or.elim hs_ (fun hs_ => hs_.1.1.1) (fun hs_ => hs_.1.1.1)) (fun hn_ => (.inr (Nat.le_trans (below_size m_21) hn_))), Or.elim hk_ (fun hs_ => Or.elim hs_ (fun hs_ => hs_.1.1.2) (fun hs_ => hs_.1.1.2)) (fun hn_ => (Kd.freshB (bA_ BK192.out) k_ hn_)), Or.elim hk_ (fun hs_ => Or.elim hs_ (fun hs_ => hs_.1.2) (fun hs_ => hs_.1.2)) (fun hn_ => (Kd.freshB (bA_ BK193.out) k_ hn_)), Or.elim hk_ (fun hs_ => Or.elim hs_ (fun hs_ => hs_.2) (fun hs_ => hs_.2)) (fun hn_ => (Kd.freshB (bA_ BK194.out) k_ hn_))⟩)) (below_size m_21))
 replace HO0_3 := vB_ HO0_3 hb
 replace HO1_3 := vB_ HO1_3 hb
 replace HO198 := vB_ HO198 hb
 replace BK192 := bB_ BK192 hb
 replace BK193 := bB_ BK193 hb
 replace BK194 := bB_ BK194 hb
 replace HB := Aside0.mk (below_step m_21 hb)
 (try clear hb); (try clear hb2); (try clear hk); (try clear hi); (try clear ho0)
 obtain ⟨Ao13, co13, eo13⟩ := Kd.V_slice HO198.out
 (first | subst eo13 | (injection eo13 with f1_ f2_ f3_; have f4_ := f1_.symm; have f5_ := f3_.symm; clear f1_ f2_ f3_; subst f4_; subst f5_))
 obtain ⟨Ao14, co14, eo14⟩ := Kd.V_slice HO202.out
 (first | subst eo14 | (injection eo14 with f1_ f2_ f3_; have f4_ := f1_.symm; have f5_ := f3_.symm; clear f1_ f2_ f3_; subst f4_; subst f5_))
 refine nx_ ⟨(blk_cell BK192.out 0).trans rfl, (blk_cell BK192.out 1).trans rfl, (blk_cell BK192.out 2).trans rfl, (blk_cell BK192.out 3).trans rfl, (blk_cell BK193.out 0).trans rfl, (blk_cell BK193.out 1).trans rfl, (blk_cell BK193.out 2).trans rfl, (blk_cell BK193.out 3).trans rfl⟩ (fun hHeld => ?_)
 refine cB_1 10 Try.func101 (args := #[.agg #[.bool t195, .slice Ao13 t196.length co13], .agg #[.bool t199, .slice Ao14 t200.length co14]]) ?_
 with_reducible refine (whole_Sub.calls k t195 (fun k_ => (((P0_1_ k_ ∨ P0_3_ k_ ∨ P1_1_ k_ ∨ P1_3_ k_) ∨ w.heap.size ≤ k_) ∧ (k_ ≠ gb192 ∧ (k_ ≠ gb193 ∧ k_ ≠ gb194)))) _ _ t196 t199 (fun k_ => (((P0_1_ k_ ∨ P0_3_ k_ ∨ P1_1_ k_ ∨ P1_3_ k_) ∨ w.heap.size ≤ k_) ∧ (k_ ≠ gb192 ∧ (k_ ≠ gb193 ∧ k_ ≠ gb194)))) _ _ t200 t203 t204 _ ?side1 ?side2 A5.out).mono ?_
 (case side1 => exact HO198.out)
 (case side2 => exact HO202.out)
 rintro e w15 ⟨v205, rfl, ho0, hb⟩
 refine ⟨_, rfl, ?_⟩
 have HO206 := Aside0.mk (Kd.V_lower (Kd.V_mono (ok' := fun k_ => ((P0_1_ k_ ∨ P0_3_ k_ ∨ P1_1_ k_ ∨ P1_3_ k_) ∨ w.heap.size ≤ k_) ∧ k_ ≠ gb192 ∧ k_ ≠ gb193 ∧ k_ ≠ gb194) ho0 (fun k_ hk_ => ⟨Or.elim hk_ (fun hs_ => Or.elim hs_ (fun hs_ => hs_.1) (fun hs_ => hs_.1)) (fun hn_ => (.inr (Nat.le_trans (below_size m_21) hn_))), Or.elim hk_ (fun hs_ => Or.elim hs_ (fun hs_ => hs_.2.1) (fun hs_ => hs_.2.1)) (fun hn_ => (Kd.freshB (bA_ BK192.out) k_ hn_)), Or.elim hk_ (fun hs_ => Or.elim hs_ (fun hs_ => hs_.2.2.1) (fun hs_ => hs_.2.2.1)) (fun hn_ => (Kd.freshB (bA_ BK193.out) k_ hn_)), Or.elim hk_ (fun hs_ => Or.elim hs_ (fun hs_ => hs_.2.2.2) (fun hs_ => hs_.2.2.2)) (fun hn_ => (Kd.freshB (bA_ BK194.out) k_ hn_))⟩)) (below_size m_21))
 replace HO0_3 := vB_ HO0_3 hb
 replace HO1_3 := vB_ HO1_3 hb
 replace BK192 := bB_ BK192 hb
 replace BK193 := bB_ BK193 hb
 replace BK194 := bB_ BK194 hb
 replace HB := Aside0.mk (below_step m_21 hb)
 (try clear hb); (try clear hb2); (try clear hk); (try clear hi); (try clear ho0)
 refine nx_ ⟨(blk_cell BK192.out 0).trans rfl, (blk_cell BK192.out 1).trans rfl, (blk_cell BK192.out 2).trans rfl, (blk_cell BK192.out 3).trans rfl, (blk_cell BK193.out 0).trans rfl, (blk_cell BK193.out 1).trans rfl, (blk_cell BK193.out 2).trans rfl, (blk_cell BK193.out 3).trans rfl⟩ (fun hHeld => ?_)
 refine cB_1 15 Try.func84 (args := #[.agg #[.bool a0_2, .slice A0_3 l0_3.length c0_3], .agg #[.bool a1_2, .slice A1_3 l1_3.length c1_3]]) ?_
 with_reducible refine (whole_Mul.calls k a0_2 (fun k_ => (((((P0_1_ k_ ∨ P0_3_ k_ ∨ P1_1_ k_ ∨ P1_3_ k_) ∨ w.heap.size ≤ k_) ∧ k_ ≠ gb192) ∧ k_ ≠ gb193) ∧ k_ ≠ gb194)) _ _ l0_3 a1_2 (fun k_ => (((((P0_1_ k_ ∨ P0_3_ k_ ∨ P1_1_ k_ ∨ P1_3_ k_) ∨ w.heap.size ≤ k_) ∧ k_ ≠ gb192) ∧ k_ ≠ gb193) ∧ k_ ≠ gb194)) _ _ l1_3 t207 t208 _ ?side1 ?side2 A6.out).mono ?_
 (case side1 => exact HO0_3.out)
 (case side2 => exact HO1_3.out)
 rintro e w16 ⟨v209, rfl, ho0, hb⟩
 refine ⟨_, rfl, ?_⟩
 have HO210 := Aside0.mk (Kd.V_lower (Kd.V_mono (ok' := fun k_ => ((P0_1_ k_ ∨ P0_3_ k_ ∨ P1_1_ k_ ∨ P1_3_ k_) ∨ w.heap.size ≤ k_) ∧ k_ ≠ gb192 ∧ k_ ≠ gb193 ∧ k_ ≠ gb194) ho0 (fun k_ hk_ => ⟨Or.elim hk_ (fun hs_ => Or.elim hs_ (fun hs_ => hs_.1.1.1) (fun hs_ => hs_.1.1.1)) (fun hn_ => (.inr (Nat.le_trans (below_size m_21) hn_))), Or.elim hk_ (fun hs_ => Or.elim hs_ (fun hs_ => hs_.1.1.2) (fun hs_ => hs_.1.1.2)) (fun hn_ => (Kd.freshB (bA_ BK192.out) k_ hn_)), Or.elim hk_ (fun hs_ => Or.elim hs_ (fun hs_ => hs_.1.2) (fun hs_ => hs_.1.2)) (fun hn_ => (Kd.freshB (bA_ BK193.out) k_ hn_)), Or.elim hk_ (fun hs_ => Or.elim hs_ (fun hs_ => hs_.2) (fun hs_ => hs_.2)) (fun hn_ => (Kd.freshB (bA_ BK194.out) k_ hn_))⟩)) (below_size m_21))
 replace HO206 := vB_ HO206 hb
 replace BK192 := bB_ BK192 hb
 replace BK193 := bB_ BK193 hb
 replace BK194 := bB_ BK194 hb
 replace HB := Aside0.mk (below_step m_21 hb)
 (try clear hb); (try clear hb2); (try clear hk); (try clear hi); (try clear ho0)
 obtain ⟨Ao17, co17, eo17⟩ := Kd.V_slice HO210.out
 (first | subst eo17 | (injection eo17 with f1_ f2_ f3_; have f4_ := f1_.symm; have f5_ := f3_.symm; clear f1_ f2_ f3_; subst f4_; subst f5_))
 obtain ⟨Ao18, co18, eo18⟩ := Kd.V_slice HO206.out
 (first | subst eo18 | (injection eo18 with f1_ f2_ f3_; have f4_ := f1_.symm; have f5_ := f3_.symm; clear f1_ f2_ f3_; subst f4_; subst f5_))
 refine nx_ ⟨(blk_cell BK192.out 0).trans rfl, (blk_cell BK192.out 1).trans rfl, (blk_cell BK192.out 2).trans rfl, (blk_cell BK192.out 3).trans rfl, (blk_cell BK193.out 0).trans rfl, (blk_cell BK193.out 1).trans rfl, (blk_cell BK193.out 2).trans rfl, (blk_cell BK193.out 3).trans rfl⟩ (fun hHeld => ?_)
 refine pA_ 16 HT_.out ?_
 refine one_ (i := 17) (N := none) #[true, true, true, true, true, true, true, true, true, true, true, true, true, true, true, true, true, true] rfl rfl (one_of HT_.out m_13) (by decide) (fun K hK => ?_)
 have hs19 : w16.cell? ⟨gb194, 0, none⟩ = some (.bool false) := (blk_cell BK194.out 0).trans rfl
 have hfs19 := blk_frozen BK194.out 0
 have hs20 : w16.cell? ⟨gb194, 1, none⟩ = some (.slice none 0 0) := (blk_cell BK194.out 1).trans rfl
 have hfs20 := blk_frozen BK194.out 1
 have hs21 : w16.cell? ⟨gb194, 2, none⟩ = some (.bool false) := (blk_cell BK194.out 2).trans rfl
 have hfs21 := blk_frozen BK194.out 2
 have hs22 : w16.cell? ⟨gb194, 3, none⟩ = some (.slice none 0 0) := (blk_cell BK194.out 3).trans rfl
 have hfs22 := blk_frozen BK194.out 3
 refine skip_ (w1 := ?_) (by rfl) rfl ?_ ?_
 rotate_left
 ·go_simp
  rfl
 refine hK.out _ _ ⟨((cell_far (p := ⟨gb194, _, none⟩) NB192_194.out _).trans (((cell_far (p := ⟨gb194, _, none⟩) NB192_194.out _).trans (((cell_far (p := ⟨gb194, _, none⟩) NB192_194.out _).trans (((cell_far (p := ⟨gb194, _, none⟩) NB192_194.out _).trans (hHeld.1)))))))), ((cell_far (p := ⟨gb194, _, none⟩) NB192_194.out _).trans (((cell_far (p := ⟨gb194, _, none⟩) NB192_194.out _).trans (((cell_far (p := ⟨gb194, _, none⟩) NB192_194.out _).trans (((cell_far (p := ⟨gb194, _, none⟩) NB192_194.out _).trans (hHeld.2.1)))))))), ((cell_far (p := ⟨gb194, _, none⟩) NB192_194.out _).trans (((cell_far (p := ⟨gb194, _, none⟩) NB192_194.out _).trans (((cell_far (p := ⟨gb194, _, none⟩) NB192_194.out _).trans (((cell_far (p := ⟨gb194, _, none⟩) NB192_194.out _).trans (hHeld.2.2.1)))))))), ((cell_far (p := ⟨gb194, _, none⟩) NB192_194.out _).trans (((cell_far (p := ⟨gb194, _, none⟩) NB192_194.out _).trans (((cell_far (p := ⟨gb194, _, none⟩) NB192_194.out _).trans (((cell_far (p := ⟨gb194, _, none⟩) NB192_194.out _).trans (hHeld.2.2.2.1)))))))), ((cell_far (p := ⟨gb194, _, none⟩) NB193_194.out _).trans (((cell_far (p := ⟨gb194, _, none⟩) NB193_194.out _).trans (((cell_far (p := ⟨gb194, _, none⟩) NB193_194.out _).trans (((cell_far (p := ⟨gb194, _, none⟩) NB193_194.out _).trans (hHeld.2.2.2.2.1)))))))), ((cell_far (p := ⟨gb194, _, none⟩) NB193_194.out _).trans (((cell_far (p := ⟨gb194, _, none⟩) NB193_194.out _).trans (((cell_far (p := ⟨gb194, _, none⟩) NB193_194.out _).trans (((cell_far (p := ⟨gb194, _, none⟩) NB193_194.out _).trans (hHeld.2.2.2.2.2.1)))))))), ((cell_far (p := ⟨gb194, _, none⟩) NB193_194.out _).trans (((cell_far (p := ⟨gb194, _, none⟩) NB193_194.out _).trans (((cell_far (p := ⟨gb194, _, none⟩) NB193_194.out _).trans (((cell_far (p := ⟨gb194, _, none⟩) NB193_194.out _).trans (hHeld.2.2.2.2.2.2.1)))))))), ((cell_far (p := ⟨gb194, _, none⟩) NB193_194.out _).trans (((cell_far (p := ⟨gb194, _, none⟩) NB193_194.out _).trans (((cell_far (p := ⟨gb194, _, none⟩) NB193_194.out _).trans (((cell_far (p := ⟨gb194, _, none⟩) NB193_194.out _).trans (hHeld.2.2.2.2.2.2.2))))))))⟩ (fun hHeld => ?_)
 clear hK K
 refine done_ (done_of HT_.out m_13) ?_
 try go_wp2
 refine bodyPost_ret (results_cell_row rfl _ _ gb194 120 #[.bool t203, .slice Ao18 t204.length co18, .bool t207, .slice Ao17 t208.length co17] (0, 0) _ rfl (by (with_reducible repeat (first | refine blk_drewN ?_ _ | refine blk_drew ?_ | refine blk_alloc ?_ _)); refine blk_put (cs := #[.bool t203, .slice Ao18 t204.length co18, .bool t207, .slice none 0 0]) ?_ 3 _ rfl; (with_reducible repeat (first | refine blk_drewN ?_ _ | refine blk_drew ?_ | refine blk_alloc ?_ _)); refine blk_put (cs := #[.bool t203, .slice Ao18 t204.length co18, .bool false, .slice none 0 0]) ?_ 2 _ rfl; (with_reducible repeat (first | refine blk_drewN ?_ _ | refine blk_drew ?_ | refine blk_alloc ?_ _)); refine blk_put (cs := #[.bool t203, .slice none 0 0, .bool false, .slice none 0 0]) ?_ 1 _ rfl; (with_reducible repeat (first | refine blk_drewN ?_ _ | refine blk_drew ?_ | refine blk_alloc ?_ _)); refine blk_put (cs := #[.bool false, .slice none 0 0, .bool false, .slice none 0 0]) ?_ 0 _ rfl; (with_reducible repeat (first | refine blk_drewN ?_ _ | refine blk_drew ?_ | refine blk_alloc ?_ _)); exact BK194.out) Try.underlying120 rfl m_13) rfl ?_
 exact ⟨_, _, m_5, (by (with_reducible repeat (first | apply Kd.V_alloc | apply Kd.V_drewN | apply Kd.V_drew)); exact Kd.V_mono (Kd.V_far (p := ⟨gb194, 3, none⟩) (Kd.V_far (p := ⟨gb194, 2, none⟩) (Kd.V_far (p := ⟨gb194, 1, none⟩) (Kd.V_far (p := ⟨gb194, 0, none⟩) (Kd.V_mono HO206.out (fun k_ hk => (⟨hk, hk.2.2.2⟩ : _ ∧ k_ ≠ gb194))) (fun _ hk => hk.2) (.bool t203)) (fun _ hk => hk.2) (.slice Ao18 t204.length co18)) (fun _ hk => hk.2) (.bool t207)) (fun _ hk => hk.2) (.slice Ao17 t208.length co17)) (fun _ hk => hk.1.1)), (by (with_reducible repeat (first | apply Kd.V_alloc | apply Kd.V_drewN | apply Kd.V_drew)); exact Kd.V_mono (Kd.V_far (p := ⟨gb194, 3, none⟩) (Kd.V_far (p := ⟨gb194, 2, none⟩) (Kd.V_far (p := ⟨gb194, 1, none⟩) (Kd.V_far (p := ⟨gb194, 0, none⟩) (Kd.V_mono HO210.out (fun k_ hk => (⟨hk, hk.2.2.2⟩ : _ ∧ k_ ≠ gb194))) (fun _ hk => hk.2) (.bool t203)) (fun _ hk => hk.2) (.slice Ao18 t204.length co18)) (fun _ hk => hk.2) (.bool t207)) (fun _ hk => hk.2) (.slice Ao17 t208.length co17)) (fun _ hk => hk.1.1)), m_21⟩
end Go.Proofs.Ytelklgdmhnkenaa.U
namespace Go.Proofs.Ytelklgdmhnkenaa.U
attribute [local go_sem] max2_int min2_int max_two min_two max_three min_three max_four min_four
def frac_does_3.f (k : Nat) (a0_0 : Bool) (l0_1 : List Int) (a0_2 : Bool) (l0_3 : List Int) (a1_0 : Bool) (l1_1 : List Int) (a1_2 : Bool) (l1_3 : List Int) : Option (Bool × List Int × Bool × List Int) := (whole_Mul.f k a0_0 l0_1 a1_0 l1_1).bind fun bt214 => ((whole_Mul.f k a0_2 l0_3 a1_2 l1_3).bind fun bt218 => (some (bt214.1, bt214.2, bt218.1, bt218.2)))
def frac_does_3.T1 : Bool × List (List Nat × List Nat) := (true, [([], []), ([0], [0]), ([], []), ([2], [2]), ([1, 3], [1, 3]), ([], []), ([5], [5]), ([], []), ([7], [7]), ([6, 8, 4], [6, 8]), ([4, 9], [4, 9]), ([10, 9, 0, 1, 2, 3, 4, 5, 6, 7, 8, 9, 10], [10])])
def frac_does_3.B1 : List Nat := [0, 1, 0, 4, 15, 0, 32, 0, 128, 511, 1023, 2047]
theorem frac_does_3.tab1 : rtab .any (opsOf Try.f102 1) = frac_does_3.T1 := by kernel_rfl
theorem frac_does_3.bits1 : waitsOk frac_does_3.T1.2 frac_does_3.B1 = true := by kernel_rfl
set_option maxHeartbeats 8000000 in
set_option maxRecDepth 100000 in
theorem frac_does_3.calls (k : Nat) (a0_0 : Bool) (P0_1_ : Nat → Prop) (A0_1 : Option Addr) (c0_1 : Nat) (l0_1 : List Int) (a0_2 : Bool) (P0_3_ : Nat → Prop) (A0_3 : Option Addr) (c0_3 : Nat) (l0_3 : List Int) (a1_0 : Bool) (P1_1_ : Nat → Prop) (A1_1 : Option Addr) (c1_1 : Nat) (l1_1 : List Int) (a1_2 : Bool) (P1_3_ : Nat → Prop) (A1_3 : Option Addr) (c1_3 : Nat) (l1_3 : List Int) (r1 : Bool) (r2 : List Int) (r3 : Bool) (r4 : List Int) (w : World) (hs0_1 : Kd.V (Kd.int .u32) 117 w w.heap.size (fun k_ => P0_1_ k_) (.slice A0_1 l0_1.length c0_1) l0_1) (hs0_3 : Kd.V (Kd.int .u32) 117 w w.heap.size (fun k_ => P0_3_ k_) (.slice A0_3 l0_3.length c0_3) l0_3) (hs1_1 : Kd.V (Kd.int .u32) 117 w w.heap.size (fun k_ => P1_1_ k_) (.slice A1_1 l1_1.length c1_1) l1_1) (hs1_3 : Kd.V (Kd.int .u32) 117 w w.heap.size (fun k_ => P1_3_ k_) (.slice A1_3 l1_3.length c1_3) l1_3) (h : frac_does_3.f k a0_0 l0_1 a0_2 l0_3 a1_0 l1_1 a1_2 l1_3 = some (r1, r2, r3, r4)) :
  Calls Try.prog 102 #[.agg #[.bool a0_0, .slice A0_1 l0_1.length c0_1, .bool a0_2, .slice A0_3 l0_3.length c0_3], .agg #[.bool a1_0, .slice A1_1 l1_1.length c1_1, .bool a1_2, .slice A1_3 l1_3.length c1_3]] w fun e w' => ∃ v1_ v3_ : Value, e = .returned (.agg #[.bool r1, v1_, .bool r3, v3_]) ∧ Kd.V (Kd.int .u32) 117 w' w.heap.size (fun k_ => ((P0_1_ k_ ∨ P0_3_ k_ ∨ P1_1_ k_ ∨ P1_3_ k_) ∨ w.heap.size ≤ k_)) v1_ r2 ∧ Kd.V (Kd.int .u32) 117 w' w.heap.size (fun k_ => ((P0_1_ k_ ∨ P0_3_ k_ ∨ P1_1_ k_ ∨ P1_3_ k_) ∨ w.heap.size ≤ k_)) v3_ r4 ∧ Below w.heap.size w w' := by
 have HO0_1 := Aside0.mk (show Kd.V (Kd.int .u32) 117 w w.heap.size (fun k_ => ((P0_1_ k_ ∨ P0_3_ k_ ∨ P1_1_ k_ ∨ P1_3_ k_) ∨ w.heap.size ≤ k_)) (.slice A0_1 l0_1.length c0_1) l0_1 from Kd.V_mono hs0_1 (fun k_ hk => .inl (.inl hk)))
 have HO0_3 := Aside0.mk (show Kd.V (Kd.int .u32) 117 w w.heap.size (fun k_ => ((P0_1_ k_ ∨ P0_3_ k_ ∨ P1_1_ k_ ∨ P1_3_ k_) ∨ w.heap.size ≤ k_)) (.slice A0_3 l0_3.length c0_3) l0_3 from Kd.V_mono hs0_3 (fun k_ hk => .inl (.inr (.inl hk))))
 have HO1_1 := Aside0.mk (show Kd.V (Kd.int .u32) 117 w w.heap.size (fun k_ => ((P0_1_ k_ ∨ P0_3_ k_ ∨ P1_1_ k_ ∨ P1_3_ k_) ∨ w.heap.size ≤ k_)) (.slice A1_1 l1_1.length c1_1) l1_1 from Kd.V_mono hs1_1 (fun k_ hk => .inl (.inr (.inr (.inl hk)))))
 have HO1_3 := Aside0.mk (show Kd.V (Kd.int .u32) 117 w w.heap.size (fun k_ => ((P0_1_ k_ ∨ P0_3_ k_ ∨ P1_1_ k_ ∨ P1_3_ k_) ∨ w.heap.size ≤ k_)) (.slice A1_3 l1_3.length c1_3) l1_3 from Kd.V_mono hs1_3 (fun k_ hk => .inl (.inr (.inr (.inr hk)))))
 have HB := Aside0.mk (Below.refl w.heap.size w)
 have H : ((whole_Mul.f k a0_0 l0_1 a1_0 l1_1).bind fun bt214 => ((whole_Mul.f k a0_2 l0_3 a1_2 l1_3).bind fun bt218 => (some (bt214.1, bt214.2, bt218.1, bt218.2)))) = some (r1, r2, r3, r4) := h
 clear h
 replace H := Option.bind_eq_some_iff.mp H
 obtain ⟨⟨t214, t215⟩, A30, H⟩ := H
 replace H : ((whole_Mul.f k a0_2 l0_3 a1_2 l1_3).bind fun bt218 => (some (t214, t215, bt218.1, bt218.2))) = some (r1, r2, r3, r4) := H
 have A3 := Aside0.mk A30
 clear A30
 replace H := Option.bind_eq_some_iff.mp H
 obtain ⟨⟨t218, t219⟩, A40, H⟩ := H
 replace H : (some (t214, t215, t218, t219)) = some (r1, r2, r3, r4) := H
 have A4 := Aside0.mk A40
 clear A40
 simp only [Option.some.injEq, Prod.mk.injEq] at H
 obtain ⟨rfl, rfl, rfl, rfl⟩ := H
 go_enter Try.func102, Try.ntmps102
 try go_wp2_with (first | ((with_reducible refine gate_dst (N := 2) rfl ?_); refine box_event ?hg (N := 2) ?hd (cs := #[.bool a0_0, .slice A0_1 l0_1.length c0_1, .bool a0_2, .slice A0_3 l0_3.length c0_3]) (t := 120) ?hr ?_; (case hd => rfl); (case hg => rfl); (case hr => exact hr_); intro gb211 hg w5 hbox hb; have BK211 := Aside0.mk (hbox); replace HO0_1 := vE_ HO0_1 hg hb; replace HO0_3 := vE_ HO0_3 hg hb; replace HO1_1 := vE_ HO1_1 hg hb; replace HO1_3 := vE_ HO1_3 hg hb; replace HB := Aside0.mk (below_step m_1 hb); clear hb hbox hg) | ((with_reducible refine gate_dst (N := 3) rfl ?_); refine box_event ?hg (N := 3) ?hd (cs := #[.bool a1_0, .slice A1_1 l1_1.length c1_1, .bool a1_2, .slice A1_3 l1_3.length c1_3]) (t := 120) ?hr ?_; (case hd => rfl); (case hg => rfl); (case hr => exact hr_); intro gb212 hg w6 hbox hb; have BK212 := Aside0.mk (hbox); replace HO0_1 := vE_ HO0_1 hg hb; replace HO0_3 := vE_ HO0_3 hg hb; replace HO1_1 := vE_ HO1_1 hg hb; replace HO1_3 := vE_ HO1_3 hg hb; replace BK211 := bB_ BK211 hb; replace HB := Aside0.mk (below_step m_109 hb); clear hb hbox hg) | ((with_reducible refine gate_dst (N := 4) rfl ?_); refine box_event ?hg (N := 4) ?hd (cs := #[.bool false, .slice none 0 0, .bool false, .slice none 0 0]) (t := 120) ?hr ?_; (case hd => rfl); (case hg => rfl); (case hr => exact hr_); intro gb213 hg w7 hbox hb; have BK213 := Aside0.mk (hbox); have GE213 := gW_ (w := w) hg m_88; have NB211_213 := nl_ BK211 hg; have NB212_213 := nl_ BK212 hg; replace HO0_1 := vE_ HO0_1 hg hb; replace HO0_3 := vE_ HO0_3 hg hb; replace HO1_1 := vE_ HO1_1 hg hb; replace HO1_3 := vE_ HO1_3 hg hb; replace BK211 := bB_ BK211 hb; replace BK212 := bB_ BK212 hb; replace HB := Aside0.mk (below_step m_88 hb); clear hb hbox hg))
 replace HO0_1 := vD_ HO0_1
 replace HO0_3 := vD_ HO0_3
 replace HO1_1 := vD_ HO1_1
 replace HO1_3 := vD_ HO1_3
 replace BK211 := bD_ BK211
 replace BK212 := bD_ BK212
 replace BK213 := bD_ BK213
 replace HB := Aside0.mk (below_drew1 HB.out)
 refine start_ (n := 12) (S := fun w' => w'.cell? ⟨gb211, 0, none⟩ = some (.bool a0_0) ∧ w'.cell? ⟨gb211, 1, none⟩ = some (.slice A0_1 l0_1.length c0_1) ∧ w'.cell? ⟨gb211, 2, none⟩ = some (.bool a0_2) ∧ w'.cell? ⟨gb211, 3, none⟩ = some (.slice A0_3 l0_3.length c0_3) ∧ w'.cell? ⟨gb212, 0, none⟩ = some (.bool a1_0) ∧ w'.cell? ⟨gb212, 1, none⟩ = some (.slice A1_1 l1_1.length c1_1) ∧ w'.cell? ⟨gb212, 2, none⟩ = some (.bool a1_2) ∧ w'.cell? ⟨gb212, 3, none⟩ = some (.slice A1_3 l1_3.length c1_3)) (ds := []) #[false, false, false, false, false, false, false, false, false, false, false, false] m_13 rfl rfl ⟨(blk_cell BK211.out 0).trans rfl, (blk_cell BK211.out 1).trans rfl, (blk_cell BK211.out 2).trans rfl, (blk_cell BK211.out 3).trans rfl, (blk_cell BK212.out 0).trans rfl, (blk_cell BK212.out 1).trans rfl, (blk_cell BK212.out 2).trans rfl, (blk_cell BK212.out 3).trans rfl⟩ (fun hHeld => ?_); refine with_tabW frac_does_3.tab1 frac_does_3.bits1 (fun HT_ HW_ => ?_)
 generalize w7.drew = w8 at HO0_1 HO0_3 HO1_1 HO1_3 BK211 BK212 BK213 HB hHeld ⊢
 refine pA_ 0 HT_.out ?_
 refine pA_ 2 HT_.out ?_
 refine pA_ 5 HT_.out ?_
 refine pA_ 7 HT_.out ?_
 refine tA_ 1 HT_.out HW_.out hHeld ?_
 refine tA_ 3 HT_.out HW_.out hHeld ?_
 refine tA_ 6 HT_.out HW_.out hHeld ?_
 refine tA_ 8 HT_.out HW_.out hHeld ?_
 refine cB_1 4 Try.func84 (args := #[.agg #[.bool a0_0, .slice A0_1 l0_1.length c0_1], .agg #[.bool a1_0, .slice A1_1 l1_1.length c1_1]]) ?_
 with_reducible refine (whole_Mul.calls k a0_0 (fun k_ => (((((P0_1_ k_ ∨ P0_3_ k_ ∨ P1_1_ k_ ∨ P1_3_ k_) ∨ w.heap.size ≤ k_) ∧ k_ ≠ gb211) ∧ k_ ≠ gb212) ∧ k_ ≠ gb213)) _ _ l0_1 a1_0 (fun k_ => (((((P0_1_ k_ ∨ P0_3_ k_ ∨ P1_1_ k_ ∨ P1_3_ k_) ∨ w.heap.size ≤ k_) ∧ k_ ≠ gb211) ∧ k_ ≠ gb212) ∧ k_ ≠ gb213)) _ _ l1_1 t214 t215 _ ?side1 ?side2 A3.out).mono ?_
 (case side1 => exact HO0_1.out)
 (case side2 => exact HO1_1.out)
 rintro e w9 ⟨v216, rfl, ho0, hb⟩
 refine ⟨_, rfl, ?_⟩
 have HO217 := Aside0.mk (Kd.V_lower (Kd.V_mono (ok' := fun k_ => ((P0_1_ k_ ∨ P0_3_ k_ ∨ P1_1_ k_ ∨ P1_3_ k_) ∨ w.heap.size ≤ k_) ∧ k_ ≠ gb211 ∧ k_ ≠ gb212 ∧ k_ ≠ gb213) ho0 (fun k_ hk_ => ⟨Or.elim hk_ (fun hs_ => Or.elim hs_ (fun hs_ => hs_.1.1.1) (fun hs_ => hs_.1.1.1)) (fun hn_ => (.inr (Nat.le_trans (below_size m_38) hn_))), Or.elim hk_ (fun hs_ => Or.elim hs_ (fun hs_ => hs_.1.1.2) (fun hs_ => hs_.1.1.2)) (fun hn_ => (Kd.freshB (bA_ BK211.out) k_ hn_)), Or.elim hk_ (fun hs_ => Or.elim hs_ (fun hs_ => hs_.1.2) (fun hs_ => hs_.1.2)) (fun hn_ => (Kd.freshB (bA_ BK212.out) k_ hn_)), Or.elim hk_ (fun hs_ => Or.elim hs_ (fun hs_ => hs_.2) (fun hs_ => hs_.2)) (fun hn_ => (Kd.freshB (bA_ BK213.out) k_ hn_))⟩)) (below_size m_38))
 replace HO0_3 := vB_ HO0_3 hb
 replace HO1_3 := vB_ HO1_3 hb
 replace BK211 := bB_ BK211 hb
 replace BK212 := bB_ BK212 hb
 replace BK213 := bB_ BK213 hb
 replace HB := Aside0.mk (below_step m_38 hb)
 (try clear hb); (try clear hb2); (try clear hk); (try clear hi); (try clear ho0)
 refine nx_ ⟨(blk_cell BK211.out 0).trans rfl, (blk_cell BK211.out 1).trans rfl, (blk_cell BK211.out 2).trans rfl, (blk_cell BK211.out 3).trans rfl, (blk_cell BK212.out 0).trans rfl, (blk_cell BK212.out 1).trans rfl, (blk_cell BK212.out 2).trans rfl, (blk_cell BK212.out 3).trans rfl⟩ (fun hHeld => ?_)
 refine cB_1 9 Try.func84 (args := #[.agg #[.bool a0_2, .slice A0_3 l0_3.length c0_3], .agg #[.bool a1_2, .slice A1_3 l1_3.length c1_3]]) ?_
 with_reducible refine (whole_Mul.calls k a0_2 (fun k_ => (((((P0_1_ k_ ∨ P0_3_ k_ ∨ P1_1_ k_ ∨ P1_3_ k_) ∨ w.heap.size ≤ k_) ∧ k_ ≠ gb211) ∧ k_ ≠ gb212) ∧ k_ ≠ gb213)) _ _ l0_3 a1_2 (fun k_ => (((((P0_1_ k_ ∨ P0_3_ k_ ∨ P1_1_ k_ ∨ P1_3_ k_) ∨ w.heap.size ≤ k_) ∧ k_ ≠ gb211) ∧ k_ ≠ gb212) ∧ k_ ≠ gb213)) _ _ l1_3 t218 t219 _ ?side1 ?side2 A4.out).mono ?_
 (case side1 => exact HO0_3.out)
 (case side2 => exact HO1_3.out)
 rintro e w10 ⟨v220, rfl, ho0, hb⟩
 refine ⟨_, rfl, ?_⟩
 have HO221 := Aside0.mk (Kd.V_lower (Kd.V_mono (ok' := fun k_ => ((P0_1_ k_ ∨ P0_3_ k_ ∨ P1_1_ k_ ∨ P1_3_ k_) ∨ w.heap.size ≤ k_) ∧ k_ ≠ gb211 ∧ k_ ≠ gb212 ∧ k_ ≠ gb213) ho0 (fun k_ hk_ => ⟨Or.elim hk_ (fun hs_ => Or.elim hs_ (fun hs_ => hs_.1.1.1) (fun hs_ => hs_.1.1.1)) (fun hn_ => (.inr (Nat.le_trans (below_size m_38) hn_))), Or.elim hk_ (fun hs_ => Or.elim hs_ (fun hs_ => hs_.1.1.2) (fun hs_ => hs_.1.1.2)) (fun hn_ => (Kd.freshB (bA_ BK211.out) k_ hn_)), Or.elim hk_ (fun hs_ => Or.elim hs_ (fun hs_ => hs_.1.2) (fun hs_ => hs_.1.2)) (fun hn_ => (Kd.freshB (bA_ BK212.out) k_ hn_)), Or.elim hk_ (fun hs_ => Or.elim hs_ (fun hs_ => hs_.2) (fun hs_ => hs_.2)) (fun hn_ => (Kd.freshB (bA_ BK213.out) k_ hn_))⟩)) (below_size m_38))
 replace HO217 := vB_ HO217 hb
 replace BK211 := bB_ BK211 hb
 replace BK212 := bB_ BK212 hb
 replace BK213 := bB_ BK213 hb
 replace HB := Aside0.mk (below_step m_38 hb)
 (try clear hb); (try clear hb2); (try clear hk); (try clear hi); (try clear ho0)
 obtain ⟨Ao11, co11, eo11⟩ := Kd.V_slice HO221.out
 (first | subst eo11 | (injection eo11 with f1_ f2_ f3_; have f4_ := f1_.symm; have f5_ := f3_.symm; clear f1_ f2_ f3_; subst f4_; subst f5_))
 obtain ⟨Ao12, co12, eo12⟩ := Kd.V_slice HO217.out
 (first | subst eo12 | (injection eo12 with f1_ f2_ f3_; have f4_ := f1_.symm; have f5_ := f3_.symm; clear f1_ f2_ f3_; subst f4_; subst f5_))
 refine nx_ ⟨(blk_cell BK211.out 0).trans rfl, (blk_cell BK211.out 1).trans rfl, (blk_cell BK211.out 2).trans rfl, (blk_cell BK211.out 3).trans rfl, (blk_cell BK212.out 0).trans rfl, (blk_cell BK212.out 1).trans rfl, (blk_cell BK212.out 2).trans rfl, (blk_cell BK212.out 3).trans rfl⟩ (fun hHeld => ?_)
 refine pA_ 10 HT_.out ?_
 refine one_ (i := 11) (N := none) #[true, true, true, true, true, true, true, true, true, true, true, true] rfl rfl (one_of HT_.out m_13) (by decide) (fun K hK => ?_)
 have hs13 : w10.cell? ⟨gb213, 0, none⟩ = some (.bool false) := (blk_cell BK213.out 0).trans rfl
 have hfs13 := blk_frozen BK213.out 0
 have hs14 : w10.cell? ⟨gb213, 1, none⟩ = some (.slice none 0 0) := (blk_cell BK213.out 1).trans rfl
 have hfs14 := blk_frozen BK213.out 1
 have hs15 : w10.cell? ⟨gb213, 2, none⟩ = some (.bool false) := (blk_cell BK213.out 2).trans rfl
 have hfs15 := blk_frozen BK213.out 2
 have hs16 : w10.cell? ⟨gb213, 3, none⟩ = some (.slice none 0 0) := (blk_cell BK213.out 3).trans rfl
 have hfs16 := blk_frozen BK213.out 3
 refine skip_ (w1 := ?_) (by rfl) rfl ?_ ?_
 rotate_left
 ·go_simp
  rfl
 refine hK.out _ _ ⟨((cell_far (p := ⟨gb213, _, none⟩) NB211_213.out _).trans (((cell_far (p := ⟨gb213, _, none⟩) NB211_213.out _).trans (((cell_far (p := ⟨gb213, _, none⟩) NB211_213.out _).trans (((cell_far (p := ⟨gb213, _, none⟩) NB211_213.out _).trans (hHeld.1)))))))), ((cell_far (p := ⟨gb213, _, none⟩) NB211_213.out _).trans (((cell_far (p := ⟨gb213, _, none⟩) NB211_213.out _).trans (((cell_far (p := ⟨gb213, _, none⟩) NB211_213.out _).trans (((cell_far (p := ⟨gb213, _, none⟩) NB211_213.out _).trans (hHeld.2.1)))))))), ((cell_far (p := ⟨gb213, _, none⟩) NB211_213.out _).trans (((cell_far (p := ⟨gb213, _, none⟩) NB211_213.out _).trans (((cell_far (p := ⟨gb213, _, none⟩) NB211_213.out _).trans (((cell_far (p := ⟨gb213, _, none⟩) NB211_213.out _).trans (hHeld.2.2.1)))))))), ((cell_far (p := ⟨gb213, _, none⟩) NB211_213.out _).trans (((cell_far (p := ⟨gb213, _, none⟩) NB211_213.out _).trans (((cell_far (p := ⟨gb213, _, none⟩) NB211_213.out _).trans (((cell_far (p := ⟨gb213, _, none⟩) NB211_213.out _).trans (hHeld.2.2.2.1)))))))), ((cell_far (p := ⟨gb213, _, none⟩) NB212_213.out _).trans (((cell_far (p := ⟨gb213, _, none⟩) NB212_213.out _).trans (((cell_far (p := ⟨gb213, _, none⟩) NB212_213.out _).trans (((cell_far (p := ⟨gb213, _, none⟩) NB212_213.out _).trans (hHeld.2.2.2.2.1)))))))), ((cell_far (p := ⟨gb213, _, none⟩) NB212_213.out _).trans (((cell_far (p := ⟨gb213, _, none⟩) NB212_213.out _).trans (((cell_far (p := ⟨gb213, _, none⟩) NB212_213.out _).trans (((cell_far (p := ⟨gb213, _, none⟩) NB212_213.out _).trans (hHeld.2.2.2.2.2.1)))))))), ((cell_far (p := ⟨gb213, _, none⟩) NB212_213.out _).trans (((cell_far (p := ⟨gb213, _, none⟩) NB212_213.out _).trans (((cell_far (p := ⟨gb213, _, none⟩) NB212_213.out _).trans (((cell_far (p := ⟨gb213, _, none⟩) NB212_213.out _).trans (hHeld.2.2.2.2.2.2.1)))))))), ((cell_far (p := ⟨gb213, _, none⟩) NB212_213.out _).trans (((cell_far (p := ⟨gb213, _, none⟩) NB212_213.out _).trans (((cell_far (p := ⟨gb213, _, none⟩) NB212_213.out _).trans (((cell_far (p := ⟨gb213, _, none⟩) NB212_213.out _).trans (hHeld.2.2.2.2.2.2.2))))))))⟩ (fun hHeld => ?_)
 clear hK K
 refine done_ (done_of HT_.out m_13) ?_
 try go_wp2
 refine bodyPost_ret (results_cell_row rfl _ _ gb213 120 #[.bool t214, .slice Ao12 t215.length co12, .bool t218, .slice Ao11 t219.length co11] (0, 0) _ rfl (by (with_reducible repeat (first | refine blk_drewN ?_ _ | refine blk_drew ?_ | refine blk_alloc ?_ _)); refine blk_put (cs := #[.bool t214, .slice Ao12 t215.length co12, .bool t218, .slice none 0 0]) ?_ 3 _ rfl; (with_reducible repeat (first | refine blk_drewN ?_ _ | refine blk_drew ?_ | refine blk_alloc ?_ _)); refine blk_put (cs := #[.bool t214, .slice Ao12 t215.length co12, .bool false, .slice none 0 0]) ?_ 2 _ rfl; (with_reducible repeat (first | refine blk_drewN ?_ _ | refine blk_drew ?_ | refine blk_alloc ?_ _)); refine blk_put (cs := #[.bool t214, .slice none 0 0, .bool false, .slice none 0 0]) ?_ 1 _ rfl; (with_reducible repeat (first | refine blk_drewN ?_ _ | refine blk_drew ?_ | refine blk_alloc ?_ _)); refine blk_put (cs := #[.bool false, .slice none 0 0, .bool false, .slice none 0 0]) ?_ 0 _ rfl; (with_reducible repeat (first | refine blk_drewN ?_ _ | refine blk_drew ?_ | refine blk_alloc ?_ _)); exact BK213.out) Try.underlying120 rfl m_13) rfl ?_
 exact ⟨_, _, m_5, (by (with_reducible repeat (first | apply Kd.V_alloc | apply Kd.V_drewN | apply Kd.V_drew)); exact Kd.V_mono (Kd.V_far (p := ⟨gb213, 3, none⟩) (Kd.V_far (p := ⟨gb213, 2, none⟩) (Kd.V_far (p := ⟨gb213, 1, none⟩) (Kd.V_far (p := ⟨gb213, 0, none⟩) (Kd.V_mono HO217.out (fun k_ hk => (⟨hk, hk.2.2.2⟩ : _ ∧ k_ ≠ gb213))) (fun _ hk => hk.2) (.bool t214)) (fun _ hk => hk.2) (.slice Ao12 t215.length co12)) (fun _ hk => hk.2) (.bool t218)) (fun _ hk => hk.2) (.slice Ao11 t219.length co11)) (fun _ hk => hk.1.1)), (by (with_reducible repeat (first | apply Kd.V_alloc | apply Kd.V_drewN | apply Kd.V_drew)); exact Kd.V_mono (Kd.V_far (p := ⟨gb213, 3, none⟩) (Kd.V_far (p := ⟨gb213, 2, none⟩) (Kd.V_far (p := ⟨gb213, 1, none⟩) (Kd.V_far (p := ⟨gb213, 0, none⟩) (Kd.V_mono HO221.out (fun k_ hk => (⟨hk, hk.2.2.2⟩ : _ ∧ k_ ≠ gb213))) (fun _ hk => hk.2) (.bool t214)) (fun _ hk => hk.2) (.slice Ao12 t215.length co12)) (fun _ hk => hk.2) (.bool t218)) (fun _ hk => hk.2) (.slice Ao11 t219.length co11)) (fun _ hk => hk.1.1)), m_38⟩
theorem c1 : cW [1] := .inr (.inl ⟨1, rfl, by omega, by omega⟩)
theorem wv1 : wv [1] = 1 := rfl
theorem vs1 : vs false [1] = 1 := rfl
theorem of_ev (x : Int) : Ev (fun k => fracK_of.f k (zS x) (zW x) false []) (zS x, zW x, false, [1]) := by
  unfold fracK_of.f
  have h := sign_ev (a := false) (l := []) (.inl rfl)
  rw [if_pos (show wv [] = 0 from rfl)] at h
  refine h.bind ?_
  simp only [if_true]
  exact (fromInt_ev (n := 1) (by omega) (by omega)).bind (Ev.const rfl)
theorem least_ev {x : Int} (h : x.natAbs < 18446744073709551616) : Ev (fun k => fracK_parts_least.f k (zS x) (zW x) false [1]) (zS x, zW x, false, []) := by
  unfold fracK_parts_least.f
  have hc := cW_z x h
  have hn : zW x = [] → zS x = false := by
    intro e
    have := zW_len x
    rw [e] at this
    have hx : x = 0 := by
      by_cases hx : x = 0
      · exact hx
      · have := this.2 hx; simp at this
    subst hx; rfl
  refine (gcd_ev hc).bind ?_
  have d1 : whole_DivMod.f (zS x) (zW x) false [1] = some (zS x, zW x, false, [], 0) := by
    unfold whole_DivMod.f
    rw [if_pos ⟨cWb_of hc, hn, rfl, rfl⟩]
  have d2 : whole_DivMod.f false [1] false [1] = some (false, [1], false, [], 0) := by
    unfold whole_DivMod.f
    rw [if_pos ⟨cWb_of c1, fun _ => rfl, rfl, rfl⟩]
  refine (Ev.const d1).bind ((Ev.const d2).bind ((fromInt_ev (n := 1) (by omega) (by omega)).bind ?_))
  have hcmp := cmp_ev (a := false) (b := zS 1) (l := [1]) (m := zW 1) c1 c1 (by decide)
  rw [if_pos (show vs false [1] = vs (zS 1) (zW 1) from rfl)] at hcmp
  exact hcmp.bind (Ev.const rfl)
theorem mul1 {x : Int} (h : x.natAbs < 18446744073709551616) : Ev (fun k => whole_Mul.f k (zS x) (zW x) false [1]) (zS x, zW x) := by
  have := Mul_ev (a := zS x) (b := false) (cW_z x h) c1 (by simp) (by rw [wv_z x h, wv1]; omega)
  rw [vs_z h, vs1, Int.mul_one] at this
  exact this
theorem mul11 : Ev (fun k => whole_Mul.f k false [1] false [1]) (false, [1]) := by
  have := Mul_ev (a := false) (b := false) c1 c1 (by simp) (by decide)
  exact this
def sm (x : Int) : Prop := -4611686018427387904 < x ∧ x < 4611686018427387904
theorem sm_a {x : Int} (h : sm x) : x.natAbs < 18446744073709551616 := by unfold sm at h; omega
theorem cl1_ev {x y : Int} (h : sm x) (h' : sm y) : Ev (fun k => frac_does_1.f k (zS x) (zW x) false [1] (zS y) (zW y) false [1]) (zS (x + y), zW (x + y), false, [1]) := by
  unfold frac_does_1.f
  have a := add_ev (a := zS x) (b := zS y) (cW_z x (sm_a h)) (cW_z y (sm_a h')) (by rw [wv_z x (sm_a h), wv_z y (sm_a h')]; unfold sm at h h'; omega)
  rw [vs_z (sm_a h), vs_z (sm_a h')] at a
  exact (mul1 (sm_a h)).bind ((mul1 (sm_a h')).bind (a.bind (mul11.bind (Ev.const rfl))))
theorem cl2_ev {x y : Int} (h : sm x) (h' : sm y) : Ev (fun k => frac_does_2.f k (zS x) (zW x) false [1] (zS y) (zW y) false [1]) (zS (x - y), zW (x - y), false, [1]) := by
  unfold frac_does_2.f
  have a := sub_ev (a := zS x) (b := zS y) (cW_z x (sm_a h)) (cW_z y (sm_a h')) (by rw [wv_z x (sm_a h), wv_z y (sm_a h')]; unfold sm at h h'; omega)
  rw [vs_z (sm_a h), vs_z (sm_a h')] at a
  exact (mul1 (sm_a h)).bind ((mul1 (sm_a h')).bind (a.bind (mul11.bind (Ev.const rfl))))
theorem zW_one {y : Int} (h : y.natAbs < 4294967296) : (zW y).length ≤ 1 := by
  unfold zW
  split
  · simp
  · simp [h]
theorem cl3_ev {x y : Int} (h : x.natAbs < 4294967296) (h' : y.natAbs < 4294967296) : Ev (fun k => frac_does_3.f k (zS x) (zW x) false [1] (zS y) (zW y) false [1]) (zS (x * y), zW (x * y), false, [1]) := by
  unfold frac_does_3.f
  have hp : (x.natAbs : Int) * y.natAbs < 18446744073709551616 := by
    have h1 : x.natAbs * y.natAbs ≤ 4294967295 * 4294967295 := Nat.mul_le_mul (by omega) (by omega)
    have h2 : ((x.natAbs * y.natAbs : Nat) : Int) ≤ ((4294967295 * 4294967295 : Nat) : Int) := Int.ofNat_le.2 h1
    rw [Int.natCast_mul] at h2
    omega
  have a := Mul_ev (a := zS x) (b := zS y) (cW_z x (by omega)) (cW_z y (by omega)) (zW_one h') (by rw [wv_z x (by omega), wv_z y (by omega)]; exact hp)
  rw [vs_z (by omega), vs_z (by omega)] at a
  exact a.bind (mul11.bind (Ev.const rfl))
theorem cmpK_ev {x y : Int} (h : sm x) (h' : sm y) : Ev (fun k => fracK_Cmp.f k (zS x) (zW x) false [] (zS y) (zW y) false []) (if x = y then 0 else if x < y then -1 else 1) := by
  unfold fracK_Cmp.f
  have a := cmp_ev (a := zS x) (b := zS y) (cW_z x (sm_a h)) (cW_z y (sm_a h')) (by rw [wv_z x (sm_a h), wv_z y (sm_a h')]; unfold sm at h h'; omega)
  rw [vs_z (sm_a h), vs_z (sm_a h')] at a
  exact (of_ev x).bind ((of_ev y).bind ((mul1 (sm_a h)).bind ((mul1 (sm_a h')).bind (a.bind (Ev.const rfl)))))
theorem signK_ev {x : Int} (h : sm x) : Ev (fun k => fracK_Sign.f k (zS x) (zW x) false []) (if x = 0 then 0 else if x < 0 then -1 else 1) := by
  unfold fracK_Sign.f
  exact (of_ev x).bind ((sign_z (sm_a h)).bind (Ev.const rfl))
theorem fromK_ev {x : Int} (h : sm x) : Ev (fun k => fracK_FromInt64.f k x) (zS x, zW x, false, []) := by
  unfold fracK_FromInt64.f
  unfold sm at h
  exact (fromInt_ev (by omega) (by omega)).bind (Ev.const rfl)
def mp (W : World) (g : Nat) (es : Array MapEntry) (clk : Nat) : World := { W with heap := W.heap.setIfInBounds g (.map es clk) }
theorem mp_get {W : World} {g : Nat} {o : Obj} (es : Array MapEntry) (clk : Nat) (h : W.heap[g]? = some o) : (mp W g es clk).heap[g]? = some (.map es clk) := by
 have hl : g < W.heap.size := by
  rcases Nat.lt_or_ge g W.heap.size with h2 | h2
  ·exact h2
  ·rw [Array.getElem?_eq_none h2] at h; cases h
 unfold mp
 simp [hl]
theorem mp_ne {W : World} {g k : Nat} (es : Array MapEntry) (clk : Nat) (h : k ≠ g) : (mp W g es clk).heap[k]? = W.heap[k]? := by
 unfold mp
 simp [Ne.symm h]
theorem mp_below {B : Nat} {a W : World} {g : Nat} (es : Array MapEntry) (clk : Nat) (h : Below B a W) (hg : B ≤ g) : Below B a (mp W g es clk) :=
 ⟨h.os, h.tape, h.output, (by unfold mp; simpa using h.size), fun k hk => (mp_ne es clk (by omega)).trans (h.block k hk)⟩
theorem ins_run {W : World} {g clk : Nat} {es : Array MapEntry} {s : ByteArray} (val : Value) (hb : W.heap[g]? = some (.map es clk)) (hf : Instr.findNow .string (.string s) es.toList 0 = some none) :
  (Instr.mapUpdate 139 (.map (some g)) (.string s) val).run Try.prog W = .ok () (mp W g (es.push { key := .string s, val := val, born := clk }) (clk + 1)) := by
 have hm : Try.prog.underlying 139 = some (.map 9 138) := by kernel_rfl
 have hk : Try.prog.underlying 9 = some .string := by kernel_rfl
 have hc : (Instr.checkKey false 10000 9 (.string s)).run Try.prog W = .ok () W := MapKept.run_checkKey (k := .string s) hk (by simp [MapKept.IsKey]) false 9999
 simp [Instr.mapUpdate, run_underlying hm, MapKept.run_getObj_map hb, hc, MapKept.run_findKey hk hf, MapKept.run_setObj_map _ hb, Result.andThen, mp]
theorem get_run {W : World} {g clk i : Nat} {es : Array MapEntry} {s : ByteArray} {val : Value} (hb : W.heap[g]? = some (.map es clk)) (hf : Instr.findNow .string (.string s) es.toList 0 = some (some (i, val))) (he : es.isEmpty = false) :
  (Instr.lookup 139 (.map (some g)) (.string s) false).run Try.prog W = .ok val W := by
 have hm : Try.prog.underlying 139 = some (.map 9 138) := by kernel_rfl
 have hk : Try.prog.underlying 9 = some .string := by kernel_rfl
 have hc : (Instr.checkKey false 10000 9 (.string s)).run Try.prog W = .ok () W := MapKept.run_checkKey (k := .string s) hk (by simp [MapKept.IsKey]) false 9999
 simp [Instr.lookup, run_underlying hm, MapKept.run_getObj_map hb, hc, MapKept.run_findKey hk hf, Result.andThen, he]
def kv (a b c : UInt8) (f i : Nat) : MapEntry := { key := .string { data := #[a, b, c] }, val := .agg #[.func (.func f) #[] #[]], born := i }
def kindsE : Array MapEntry := #[kv 97 100 100 98 0, kv 115 117 98 100 1, kv 109 117 108 102 2, kv 100 105 118 103 3]
def kindsW (W : World) : World := mp (mp (mp (mp (W.alloc (.map #[] 0)) W.heap.size #[kv 97 100 100 98 0] 1) W.heap.size #[kv 97 100 100 98 0, kv 115 117 98 100 1] 2) W.heap.size #[kv 97 100 100 98 0, kv 115 117 98 100 1, kv 109 117 108 102 2] 3) W.heap.size kindsE 4
theorem kinds0 (W : World) : (W.alloc (.map #[] 0)).heap[W.heap.size]? = some (.map #[] 0) := MapKept.heap_alloc W _ |>.1
theorem kinds_get (W : World) : (kindsW W).heap[W.heap.size]? = some (.map kindsE 4) := mp_get _ _ (mp_get _ _ (mp_get _ _ (mp_get _ _ (kinds0 W))))
theorem kinds_old (W : World) {k : Nat} (h : k < W.heap.size) : (kindsW W).heap[k]? = W.heap[k]? := by
 unfold kindsW
 rw [mp_ne _ _ (by omega), mp_ne _ _ (by omega), mp_ne _ _ (by omega), mp_ne _ _ (by omega)]
 exact Below.heap_alloc W _ k h
theorem kinds_below {B : Nat} {a W : World} (h : Below B a W) (hB : B ≤ W.heap.size) : Below B a (kindsW W) :=
 mp_below _ _ (mp_below _ _ (mp_below _ _ (mp_below _ _ (h.alloc hB _) hB) hB) hB) hB
theorem kdC_of {w : World} {n : Nat} {ok : Nat → Prop} {A : Option Addr} {c : Nat} {l : List Int} (h : Kd.V (Kd.int .u32) 117 w n ok (.slice A l.length c) l) : Kd.C (Kd.int .u32) w A l.length l ∧ l.length ≤ c := ⟨(Kd.V_reads' h).2.2, (Kd.V_reads' h).2.1⟩
theorem three {w : World} (o1 o2 o3 : Obj) : ((((w.alloc o1).alloc o2).alloc o3).heap.size = w.heap.size + 1 + 1 + 1) ∧ (((w.alloc o1).alloc o2).alloc o3).heap[w.heap.size]? = some o1 ∧ (((w.alloc o1).alloc o2).alloc o3).heap[w.heap.size + 1]? = some o2 ∧ (((w.alloc o1).alloc o2).alloc o3).heap[w.heap.size + 1 + 1]? = some o3 ∧ Below w.heap.size w (((w.alloc o1).alloc o2).alloc o3) := by
 have s1 : (w.alloc o1).heap.size = w.heap.size + 1 := by simp
 have s2 : ((w.alloc o1).alloc o2).heap.size = w.heap.size + 1 + 1 := by simp
 have a1 := (MapKept.heap_alloc w o1).1
 have a2 := (MapKept.heap_alloc (w.alloc o1) o2).1
 have a3 := (MapKept.heap_alloc ((w.alloc o1).alloc o2) o3).1
 rw [s1] at a2
 rw [s2] at a3
 refine ⟨(by simp), ?_, ?_, a3, ((((Below.refl _ w).alloc (Nat.le_refl _) _).alloc (by omega) _).alloc (by omega) _)⟩
 ·rw [Below.heap_alloc _ _ _ (by omega), Below.heap_alloc _ _ _ (by omega)]
  exact a1
 ·rw [Below.heap_alloc _ _ _ (by omega)]
  exact a2
theorem any_below {w w1 : World} {g : Nat} {o : Obj} (h : w.heap[g]? = some o) (hb : Below w.heap.size w w1) : w1.heap[g]? = some o := by
 have hl : g < w.heap.size := by
  rcases Nat.lt_or_ge g w.heap.size with h2 | h2
  ·exact h2
  ·rw [Array.getElem?_eq_none h2] at h; cases h
 exact (hb.block g hl).trans h
section
variable {P : Program} {ops : Array Oper} {Q : Exit → Act → World → Prop}
theorem goesT_ {oi : Oper} {N : Option Tmp} {a : Act} {w : World} {K : Act → World → Prop} {f : FuncId} {fn : Func} {ar : Array Operand} {ts : Array TypeId} (hf : P.funcs[f]? = some fn) (hname : (fn.name == "runtime.NumGoroutine") = false) (hb : fn.body.isSome = true) (args : Array Value) (t : Tmp)
  (hw : Region.wanted oi (yielded ops a.tmps) = true) (hN : oi.dst = N) (hop : oi.op = .call { callee := .value (.tmp t), args := ar, argTypes := ts }) (hv : a.eval (.tmp t) = .func (.func f) #[] #[]) (hargs : ar.map a.eval = args)
  (h : Calls P f args w fun e w' => ∃ v, e = .returned v ∧ K (a.put N v) w') : if Region.wanted oi (yielded ops a.tmps) = true then Oper.wp P oi a w K Q else K (a.put N undef) w := by
 refine call_ f args hw hN ?_ h
 have he := enters_ hf hname hb args w
 unfold execOp
 simp [hop, resolve, hv, Deferred.ofValue, invoke, hargs, he]
end
theorem wp_gen {F : World → Prop} {P : Program} {C : Code} {Q : Exit → Act → World → Prop} {a : Act} {W : World} (hF : F W) (h : ∀ Wk, F Wk → Code.wp P C Q a Wk) : Code.wp P C Q a W := h W hF
set_option maxHeartbeats 8000000 in
set_option maxRecDepth 100000 in
theorem does1_calls {x y : Int} (hx : sm x) (hy : sm y) (hr : (x + y).natAbs < 18446744073709551616) (A0 : Option Addr) (c0 : Nat) (A1 : Option Addr) (c1_ : Nat) (A2 : Option Addr) (c2 : Nat) (A3 : Option Addr) (c3 : Nat) (w : World) (h0 : Kd.C (Kd.int .u32) w A0 (zW x).length (zW x)) (k0 : (zW x).length ≤ c0) (h1 : Kd.C (Kd.int .u32) w A1 ([] : List Int).length []) (h2 : Kd.C (Kd.int .u32) w A2 (zW y).length (zW y)) (k2 : (zW y).length ≤ c2) (h3 : Kd.C (Kd.int .u32) w A3 ([] : List Int).length []) :
  Calls Try.prog 80 #[.string { data := #[97, 100, 100] }, .agg #[.bool (zS x), .slice A0 (zW x).length c0, .bool false, .slice A1 0 c1_], .agg #[.bool (zS y), .slice A2 (zW y).length c2, .bool false, .slice A3 0 c3]] w fun e w' => ∃ v1_ v3_ : Value, e = .returned (.agg #[.bool (zS (x + y)), v1_, .bool false, v3_]) ∧ Kd.V (Kd.int .u32) 117 w' w.heap.size (fun k_ => (w.heap.size ≤ k_)) v1_ (zW (x + y)) ∧ Kd.V (Kd.int .u32) 117 w' w.heap.size (fun k_ => (w.heap.size ≤ k_)) v3_ [] ∧ Below w.heap.size w w' := by
 obtain ⟨ka, hka⟩ := of_ev x
 obtain ⟨kb, hkb⟩ := of_ev y
 obtain ⟨kc, hkc⟩ := cl1_ev hx hy
 obtain ⟨kd, hkd⟩ := least_ev hr
 have Hka := Aside0.mk (hka ka (Nat.le_refl _))
 have Hkb := Aside0.mk (hkb kb (Nat.le_refl _))
 have Hkc := Aside0.mk (hkc kc (Nat.le_refl _))
 have Hkd := Aside0.mk (hkd kd (Nat.le_refl _))
 clear hka hkb hkc hkd hr
 obtain ⟨sx, hsx⟩ : ∃ s, s = zS x := ⟨_, rfl⟩
 obtain ⟨sy, hsy⟩ : ∃ s, s = zS y := ⟨_, rfl⟩
 obtain ⟨sr, hsr⟩ : ∃ s, s = zS (x + y) := ⟨_, rfl⟩
 obtain ⟨lx, hlx⟩ : ∃ s, s = zW x := ⟨_, rfl⟩
 obtain ⟨ly, hly⟩ : ∃ s, s = zW y := ⟨_, rfl⟩
 obtain ⟨lr, hlr⟩ : ∃ s, s = zW (x + y) := ⟨_, rfl⟩
 rw [← hsx, ← hlx] at Hka
 rw [← hsy, ← hly] at Hkb
 rw [← hsx, ← hlx, ← hsy, ← hly, ← hsr, ← hlr] at Hkc
 rw [← hsr, ← hlr] at Hkd
 rw [← hlx] at h0 k0
 rw [← hly] at h2 k2
 rw [← hsx, ← hlx, ← hsy, ← hly, ← hsr, ← hlr]
 clear hsx hsy hsr hlx hly hlr
 have H0 := Aside0.mk h0
 have K0 := Aside0.mk k0
 have H1 := Aside0.mk h1
 have H2 := Aside0.mk h2
 have K2 := Aside0.mk k2
 have H3 := Aside0.mk h3
 clear h0 k0 h1 h2 k2 h3 hx hy
 have hmm := @run_makeMap Try.prog
 have hu66 := Try.underlying66
 have hu120 := Try.underlying120
 have hu64 := Try.underlying64
 go_enter Try.func80, Try.ntmps80
 go_wp2_with fail
 obtain ⟨W0, hW0⟩ : ∃ W0 : World, W0 = ((w.alloc (.cells #[.bool sx, .slice A0 lx.length c0, .bool false, .slice A1 0 c1_] 66 (0, 0))).alloc (.cells #[.bool sy, .slice A2 ly.length c2, .bool false, .slice A3 0 c3] 66 (0, 0))).alloc (.cells #[.bool false, .slice none 0 0, .bool false, .slice none 0 0] 66 (0, 0)) := ⟨_, rfl⟩
 have t3 := three (w := w) (.cells #[.bool sx, .slice A0 lx.length c0, .bool false, .slice A1 0 c1_] 66 (0, 0)) (.cells #[.bool sy, .slice A2 ly.length c2, .bool false, .slice A3 0 c3] 66 (0, 0)) (.cells #[.bool false, .slice none 0 0, .bool false, .slice none 0 0] 66 (0, 0))
 rw [← hW0] at t3
 obtain ⟨s3, b1, b2, b3, hb⟩ := t3
 rw [← hW0, ← s3]
 obtain ⟨gB, hgB⟩ : ∃ g, g = w.heap.size + 1 := ⟨_, rfl⟩
 obtain ⟨gC, hgC⟩ : ∃ g, g = w.heap.size + 1 + 1 := ⟨_, rfl⟩
 obtain ⟨gM, hgM⟩ : ∃ g, g = W0.heap.size := ⟨_, rfl⟩
 rw [← hgC, ← hgB]
 rw [← hgC] at b3
 rw [← hgB] at b2
 have z0 := kinds0 W0
 have BB1 := Aside0.mk b1
 have BB2 := Aside0.mk b2
 have BB3 := Aside0.mk b3
 have HB := Aside0.mk hb
 have HS := Aside0.mk s3
 have HG := Aside0.mk (show gB = w.heap.size + 1 ∧ gC = w.heap.size + 1 + 1 from ⟨hgB, hgC⟩)
 clear b1 b2 b3 hb s3 hW0 hgB hgC
 rw [← hgM] at z0 ⊢
 have HM := Aside0.mk hgM
 have Z0 := Aside0.mk z0
 clear hgM z0
 rw [ins_run _ Z0.out rfl]
 go_wp2_with fail
 rw [ins_run _ (mp_get _ _ Z0.out) rfl]
 go_wp2_with fail
 rw [ins_run _ (mp_get _ _ (mp_get _ _ Z0.out)) rfl]
 go_wp2_with fail
 rw [ins_run _ (mp_get _ _ (mp_get _ _ (mp_get _ _ Z0.out))) rfl]
 go_upto_region 2 with (fail)
 refine wp_gen (F := fun Wk => Wk.heap[gM]? = some (.map kindsE 4) ∧ Wk.heap[w.heap.size]? = some (.cells #[.bool sx, .slice A0 lx.length c0, .bool false, .slice A1 0 c1_] 66 (0, 0)) ∧ Wk.heap[gB]? = some (.cells #[.bool sy, .slice A2 ly.length c2, .bool false, .slice A3 0 c3] 66 (0, 0)) ∧ Wk.heap[gC]? = some (.cells #[.bool false, .slice none 0 0, .bool false, .slice none 0 0] 66 (0, 0)) ∧ Below w.heap.size w Wk) ?_ ?_
 ·have hM := HM.out
  have hG := HG.out
  have hS := HS.out
  have Kk := kinds_get W0
  have ko := @kinds_old W0
  have kb_ := kinds_below HB.out (by omega)
  rw [← hM] at Kk
  have e : ∀ k, k < W0.heap.size → (kindsW W0).heap[k]? = W0.heap[k]? := fun k h => ko h
  subst hM
  exact ⟨Kk, (e _ (by omega)).trans BB1.out, (e _ (by omega)).trans BB2.out, (e _ (by omega)).trans BB3.out, kb_⟩
 rintro Wk ⟨m0, m1, m2, m3, hb⟩
 clear BB1 BB2 BB3 HB Z0
 have BM := Aside0.mk (show Wk.drew.heap[gM]? = some (.map kindsE 4) from m0)
 have BB1 := Aside0.mk (blk_drew m1)
 have BB2 := Aside0.mk (blk_drew m2)
 have BB3 := Aside0.mk (blk_drew m3)
 have HB := Aside0.mk (below_drew1 hb)
 clear m0 m1 m2 m3 hb
 have hget : ∀ W' : World, W'.heap[gM]? = some (.map kindsE 4) → (Instr.lookup 139 (.map (some gM)) (.string { data := #[97, 100, 100] }) false).run Try.prog W' = .ok (.agg #[.func (.func 98) #[] #[]]) W' := fun W' h => get_run h rfl rfl
 have hfd : ∀ W' : World, (Instr.field 138 (.agg #[.func (.func 98) #[] #[]]) 0).run Try.prog W' = .ok (.func (.func 98) #[] #[]) W' := fun _ => by kernel_rfl
 have HGET := Aside0.mk hget
 clear hget
 refine start_ (n := 11) (S := fun w' => w'.cell? ⟨w.heap.size, 0, none⟩ = some (.bool sx) ∧ w'.cell? ⟨w.heap.size, 1, none⟩ = some (.slice A0 lx.length c0) ∧ w'.cell? ⟨w.heap.size, 2, none⟩ = some (.bool false) ∧ w'.cell? ⟨w.heap.size, 3, none⟩ = some (.slice A1 0 c1_) ∧ w'.cell? ⟨gB, 0, none⟩ = some (.bool sy) ∧ w'.cell? ⟨gB, 1, none⟩ = some (.slice A2 ly.length c2) ∧ w'.cell? ⟨gB, 2, none⟩ = some (.bool false) ∧ w'.cell? ⟨gB, 3, none⟩ = some (.slice A3 0 c3) ∧ w'.heap[gM]? = some (.map kindsE 4)) (ds := []) #[false, false, false, false, false, false, false, false, false, false, false] m_13 rfl rfl ⟨(blk_cell BB1.out 0).trans rfl, (blk_cell BB1.out 1).trans rfl, (blk_cell BB1.out 2).trans rfl, (blk_cell BB1.out 3).trans rfl, (blk_cell BB2.out 0).trans rfl, (blk_cell BB2.out 1).trans rfl, (blk_cell BB2.out 2).trans rfl, (blk_cell BB2.out 3).trans rfl, BM.out⟩ (fun hHeld => ?_)
 generalize Wk.drew = Wd at BM BB1 BB2 BB3 HB hHeld ⊢
 refine pB_ 0 ?_
 refine pB_ 1 ?_
 refine take_ (i := 2) (N := some 16) (v := ?_) (a' := ?_) #[true, true, true, false, false, false, false, false, false, false, false] rfl rfl m_13 (fun _ _ _ h => h) (Or.inl ⟨(by rfl), ?_⟩) hHeld ?_ ?_
 rotate_left
 ·rintro w' ⟨s0, s1, s2, s3, s4, s5, s6, s7, s8⟩
  have hg_ := HGET.out w' s8
  go_simp
  with_reducible rfl
 rotate_left
 ·simp only [Act.put, List.setIfInBounds_toArray, List.set_cons_zero, List.set_cons_succ, i64_w, i32_w]
  rfl
 refine pB_ 3 ?_
 refine tB_ 4 hHeld ?_
 refine tB_ 6 hHeld ?_
 refine one_ (i := 5) (N := some 19) #[true, true, true, true, true, true, true, false, false, false, false] rfl rfl m_13 (by decide) (fun K hK => ?_)
 refine goes_ Try.func82 m_13 rfl #[.agg #[.bool sx, .slice A0 lx.length c0, .bool false, .slice A1 0 c1_]] (by rfl) rfl rfl m_23 ?_
 refine (fracK_of.calls ka sx _ A0 c0 lx false _ A1 c1_ [] sx lx false [1] _ (V_of_C (Kd.C_below H0.out HB.out) K0.out) (V_of_C (Kd.C_below H1.out HB.out) (Nat.zero_le _)) Hka.out).mono ?_
 rintro e w1 ⟨v1, v3, rfl, ho1, ho3, hb⟩
 refine ⟨_, rfl, ?_⟩
 obtain ⟨Aa1, ca1, ea1⟩ := Kd.V_slice ho1
 subst ea1
 obtain ⟨Ab1, cb1, eb1⟩ := Kd.V_slice ho3
 subst eb1
 have R1 := Aside0.mk (kdC_of ho1)
 have T1 := Aside0.mk (kdC_of ho3)
 clear ho1 ho3
 replace BM := Aside0.mk (any_below BM.out hb)
 replace BB1 := Aside0.mk (any_below BB1.out hb)
 replace BB2 := Aside0.mk (any_below BB2.out hb)
 replace BB3 := Aside0.mk (any_below BB3.out hb)
 replace HB := Aside0.mk (below_step HB.out hb)
 clear hb
 refine hK.out _ _ ⟨(blk_cell BB1.out 0).trans rfl, (blk_cell BB1.out 1).trans rfl, (blk_cell BB1.out 2).trans rfl, (blk_cell BB1.out 3).trans rfl, (blk_cell BB2.out 0).trans rfl, (blk_cell BB2.out 1).trans rfl, (blk_cell BB2.out 2).trans rfl, (blk_cell BB2.out 3).trans rfl, BM.out⟩ (fun hHeld => ?_)
 clear hK K
 refine norm_ (a' := ?_) ?_ ?_
 rotate_left
 ·show Act.put _ (some 19) _ = _
  simp only [Act.put, List.setIfInBounds_toArray, List.set_cons_zero, List.set_cons_succ, i64_w, i32_w]
  rfl
 refine one_ (i := 7) (N := some 21) #[true, true, true, true, true, true, true, true, false, false, false] rfl rfl m_13 (by decide) (fun K hK => ?_)
 refine goes_ Try.func82 m_13 rfl #[.agg #[.bool sy, .slice A2 ly.length c2, .bool false, .slice A3 0 c3]] (by rfl) rfl rfl m_23 ?_
 refine (fracK_of.calls kb sy _ A2 c2 ly false _ A3 c3 [] sy ly false [1] _ (V_of_C (Kd.C_below H2.out HB.out) K2.out) (V_of_C (Kd.C_below H3.out HB.out) (Nat.zero_le _)) Hkb.out).mono ?_
 rintro e w2 ⟨v1, v3, rfl, ho1, ho3, hb⟩
 refine ⟨_, rfl, ?_⟩
 obtain ⟨Aa2, ca2, ea2⟩ := Kd.V_slice ho1
 subst ea2
 obtain ⟨Ab2, cb2, eb2⟩ := Kd.V_slice ho3
 subst eb2
 have R2 := Aside0.mk (kdC_of ho1)
 have T2 := Aside0.mk (kdC_of ho3)
 clear ho1 ho3
 replace R1 := Aside0.mk (And.intro (Kd.C_below R1.out.1 hb) R1.out.2)
 replace T1 := Aside0.mk (And.intro (Kd.C_below T1.out.1 hb) T1.out.2)
 replace BM := Aside0.mk (any_below BM.out hb)
 replace BB1 := Aside0.mk (any_below BB1.out hb)
 replace BB2 := Aside0.mk (any_below BB2.out hb)
 replace BB3 := Aside0.mk (any_below BB3.out hb)
 replace HB := Aside0.mk (below_step HB.out hb)
 clear hb
 refine hK.out _ _ ⟨(blk_cell BB1.out 0).trans rfl, (blk_cell BB1.out 1).trans rfl, (blk_cell BB1.out 2).trans rfl, (blk_cell BB1.out 3).trans rfl, (blk_cell BB2.out 0).trans rfl, (blk_cell BB2.out 1).trans rfl, (blk_cell BB2.out 2).trans rfl, (blk_cell BB2.out 3).trans rfl, BM.out⟩ (fun hHeld => ?_)
 clear hK K
 refine norm_ (a' := ?_) ?_ ?_
 rotate_left
 ·show Act.put _ (some 21) _ = _
  simp only [Act.put, List.setIfInBounds_toArray, List.set_cons_zero, List.set_cons_succ, i64_w, i32_w]
  rfl
 refine one_ (i := 8) (N := some 22) #[true, true, true, true, true, true, true, true, true, false, false] rfl rfl m_13 (by decide) (fun K hK => ?_)
 refine goesT_ Try.func98 m_13 rfl #[.agg #[.bool sx, .slice Aa1 lx.length ca1, .bool false, .slice Ab1 1 cb1], .agg #[.bool sy, .slice Aa2 ly.length ca2, .bool false, .slice Ab2 1 cb2]] 17 (by rfl) rfl rfl rfl m_23 ?_
 refine (frac_does_1.calls kc sx _ Aa1 ca1 lx false _ Ab1 cb1 [1] sy _ Aa2 ca2 ly false _ Ab2 cb2 [1] sr lr false [1] _ (V_of_C R1.out.1 R1.out.2) (V_of_C T1.out.1 T1.out.2) (V_of_C R2.out.1 R2.out.2) (V_of_C T2.out.1 T2.out.2) Hkc.out).mono ?_
 rintro e w3 ⟨v1, v3, rfl, ho1, ho3, hb⟩
 refine ⟨_, rfl, ?_⟩
 obtain ⟨Aa3, ca3, ea3⟩ := Kd.V_slice ho1
 subst ea3
 obtain ⟨Ab3, cb3, eb3⟩ := Kd.V_slice ho3
 subst eb3
 have R3 := Aside0.mk (kdC_of ho1)
 have T3 := Aside0.mk (kdC_of ho3)
 clear ho1 ho3
 replace BM := Aside0.mk (any_below BM.out hb)
 replace BB1 := Aside0.mk (any_below BB1.out hb)
 replace BB2 := Aside0.mk (any_below BB2.out hb)
 replace BB3 := Aside0.mk (any_below BB3.out hb)
 replace HB := Aside0.mk (below_step HB.out hb)
 clear hb
 refine hK.out _ _ ⟨(blk_cell BB1.out 0).trans rfl, (blk_cell BB1.out 1).trans rfl, (blk_cell BB1.out 2).trans rfl, (blk_cell BB1.out 3).trans rfl, (blk_cell BB2.out 0).trans rfl, (blk_cell BB2.out 1).trans rfl, (blk_cell BB2.out 2).trans rfl, (blk_cell BB2.out 3).trans rfl, BM.out⟩ (fun hHeld => ?_)
 clear hK K
 refine norm_ (a' := ?_) ?_ ?_
 rotate_left
 ·show Act.put _ (some 22) _ = _
  simp only [Act.put, List.setIfInBounds_toArray, List.set_cons_zero, List.set_cons_succ, i64_w, i32_w]
  rfl
 refine one_ (i := 9) (N := some 23) #[true, true, true, true, true, true, true, true, true, true, false] rfl rfl m_13 (by decide) (fun K hK => ?_)
 refine goes_ Try.func104 m_13 rfl #[.agg #[.bool sr, .slice Aa3 lr.length ca3, .bool false, .slice Ab3 1 cb3]] (by rfl) rfl rfl m_23 ?_
 refine (fracK_parts_least.calls kd sr _ Aa3 ca3 lr false _ Ab3 cb3 [1] sr lr false [] _ (V_of_C R3.out.1 R3.out.2) (V_of_C T3.out.1 T3.out.2) Hkd.out).mono ?_
 rintro e w4 ⟨v1, v3, rfl, ho1, ho3, hb⟩
 refine ⟨_, rfl, ?_⟩
 have hsz := below_size HB.out
 replace ho1 := Kd.V_lower (Kd.V_mono ho1 (fun k_ h_ => (⟨Nat.le_trans hsz h_, Kd.freshB BB3.out k_ h_⟩ : w.heap.size ≤ k_ ∧ k_ ≠ gC))) hsz
 replace ho3 := Kd.V_lower (Kd.V_mono ho3 (fun k_ h_ => (⟨Nat.le_trans hsz h_, Kd.freshB BB3.out k_ h_⟩ : w.heap.size ≤ k_ ∧ k_ ≠ gC))) hsz
 obtain ⟨Aa4, ca4, ea4⟩ := Kd.V_slice ho1
 subst ea4
 obtain ⟨Ab4, cb4, eb4⟩ := Kd.V_slice ho3
 subst eb4
 have R4 := Aside0.mk ho1
 have T4 := Aside0.mk ho3
 clear ho1 ho3 hsz
 replace BM := Aside0.mk (any_below BM.out hb)
 replace BB1 := Aside0.mk (any_below BB1.out hb)
 replace BB2 := Aside0.mk (any_below BB2.out hb)
 replace BB3 := Aside0.mk (any_below BB3.out hb)
 replace HB := Aside0.mk (below_step HB.out hb)
 clear hb
 refine hK.out _ _ ⟨(blk_cell BB1.out 0).trans rfl, (blk_cell BB1.out 1).trans rfl, (blk_cell BB1.out 2).trans rfl, (blk_cell BB1.out 3).trans rfl, (blk_cell BB2.out 0).trans rfl, (blk_cell BB2.out 1).trans rfl, (blk_cell BB2.out 2).trans rfl, (blk_cell BB2.out 3).trans rfl, BM.out⟩ (fun hHeld => ?_)
 clear hK K
 refine norm_ (a' := ?_) ?_ ?_
 rotate_left
 ·show Act.put _ (some 23) _ = _
  simp only [Act.put, List.setIfInBounds_toArray, List.set_cons_zero, List.set_cons_succ, i64_w, i32_w]
  rfl
 have hG := HG.out
 have hM_ := HM.out
 have hS_ := HS.out
 have N1 : w.heap.size ≠ gC := by omega
 have N2 : gB ≠ gC := by omega
 have N3 : gM ≠ gC := by omega
 have HN := Aside0.mk (And.intro N1 (And.intro N2 N3))
 have HW := Aside0.mk (show w.heap.size ≤ gC by omega)
 clear hG hM_ hS_ N1 N2 N3
 refine one_ (i := 10) (N := none) #[true, true, true, true, true, true, true, true, true, true, true] rfl rfl m_13 (by decide) (fun K hK => ?_)
 have hz0 : w4.cell? ⟨gC, 0, none⟩ = some (.bool false) := (blk_cell BB3.out 0).trans rfl
 have hz1 : w4.cell? ⟨gC, 1, none⟩ = some (.slice none 0 0) := (blk_cell BB3.out 1).trans rfl
 have hz2 : w4.cell? ⟨gC, 2, none⟩ = some (.bool false) := (blk_cell BB3.out 2).trans rfl
 have hz3 : w4.cell? ⟨gC, 3, none⟩ = some (.slice none 0 0) := (blk_cell BB3.out 3).trans rfl
 have hf0 := blk_frozen BB3.out 0
 have hf1 := blk_frozen BB3.out 1
 have hf2 := blk_frozen BB3.out 2
 have hf3 := blk_frozen BB3.out 3
 refine skip_ (w1 := ?_) (by rfl) rfl ?_ ?_
 rotate_left
 ·go_simp
  rfl
 obtain ⟨q0, q1, q2, q3, q4, q5, q6, q7, q8⟩ := hHeld
 have far : ∀ (b o : Nat) (u : Option Value), b ≠ gC → w4.cell? ⟨b, o, none⟩ = u → ((((w4.setCell ⟨gC, 0, none⟩ (.bool sr)).setCell ⟨gC, 1, none⟩ (.slice Aa4 lr.length ca4)).setCell ⟨gC, 2, none⟩ (.bool false)).setCell ⟨gC, 3, none⟩ (.slice Ab4 ([] : List Int).length cb4)).cell? ⟨b, o, none⟩ = u := fun b o u hb hu => (cell_far (p := ⟨gC, _, none⟩) hb _).trans ((cell_far (p := ⟨gC, _, none⟩) hb _).trans ((cell_far (p := ⟨gC, _, none⟩) hb _).trans ((cell_far (p := ⟨gC, _, none⟩) hb _).trans hu)))
 refine hK.out _ _ ⟨far _ _ _ HN.out.1 q0, far _ _ _ HN.out.1 q1, far _ _ _ HN.out.1 q2, far _ _ _ HN.out.1 q3, far _ _ _ HN.out.2.1 q4, far _ _ _ HN.out.2.1 q5, far _ _ _ HN.out.2.1 q6, far _ _ _ HN.out.2.1 q7, (Below.heap_setCell _ _ _ _ HN.out.2.2).trans ((Below.heap_setCell _ _ _ _ HN.out.2.2).trans ((Below.heap_setCell _ _ _ _ HN.out.2.2).trans ((Below.heap_setCell _ _ _ _ HN.out.2.2).trans q8)))⟩ (fun hHeld => ?_)
 clear hK K
 refine done_ m_13 ?_
 try go_wp2
 refine bodyPost_ret (results_cell_row rfl _ _ gC 66 #[.bool sr, .slice Aa4 lr.length ca4, .bool false, .slice Ab4 ([] : List Int).length cb4] (0, 0) _ rfl m_47 Try.underlying66 rfl m_13) rfl ?_
 refine ⟨_, _, rfl, ?_, ?_, ?_⟩
 ·exact Kd.V_mono (Kd.V_far (p := ⟨gC, 3, none⟩) (Kd.V_far (p := ⟨gC, 2, none⟩) (Kd.V_far (p := ⟨gC, 1, none⟩) (Kd.V_far (p := ⟨gC, 0, none⟩) R4.out (fun _ hk => hk.2) _) (fun _ hk => hk.2) _) (fun _ hk => hk.2) _) (fun _ hk => hk.2) _) (fun _ hk => hk.1)
 ·exact Kd.V_mono (Kd.V_far (p := ⟨gC, 3, none⟩) (Kd.V_far (p := ⟨gC, 2, none⟩) (Kd.V_far (p := ⟨gC, 1, none⟩) (Kd.V_far (p := ⟨gC, 0, none⟩) T4.out (fun _ hk => hk.2) _) (fun _ hk => hk.2) _) (fun _ hk => hk.2) _) (fun _ hk => hk.2) _) (fun _ hk => hk.1)
 ·exact below_set (below_set (below_set (below_set HB.out HW.out) HW.out) HW.out) HW.out
set_option maxHeartbeats 8000000 in
set_option maxRecDepth 100000 in
theorem does2_calls {x y : Int} (hx : sm x) (hy : sm y) (hr : (x - y).natAbs < 18446744073709551616) (A0 : Option Addr) (c0 : Nat) (A1 : Option Addr) (c1_ : Nat) (A2 : Option Addr) (c2 : Nat) (A3 : Option Addr) (c3 : Nat) (w : World) (h0 : Kd.C (Kd.int .u32) w A0 (zW x).length (zW x)) (k0 : (zW x).length ≤ c0) (h1 : Kd.C (Kd.int .u32) w A1 ([] : List Int).length []) (h2 : Kd.C (Kd.int .u32) w A2 (zW y).length (zW y)) (k2 : (zW y).length ≤ c2) (h3 : Kd.C (Kd.int .u32) w A3 ([] : List Int).length []) :
  Calls Try.prog 80 #[.string { data := #[115, 117, 98] }, .agg #[.bool (zS x), .slice A0 (zW x).length c0, .bool false, .slice A1 0 c1_], .agg #[.bool (zS y), .slice A2 (zW y).length c2, .bool false, .slice A3 0 c3]] w fun e w' => ∃ v1_ v3_ : Value, e = .returned (.agg #[.bool (zS (x - y)), v1_, .bool false, v3_]) ∧ Kd.V (Kd.int .u32) 117 w' w.heap.size (fun k_ => (w.heap.size ≤ k_)) v1_ (zW (x - y)) ∧ Kd.V (Kd.int .u32) 117 w' w.heap.size (fun k_ => (w.heap.size ≤ k_)) v3_ [] ∧ Below w.heap.size w w' := by
 obtain ⟨ka, hka⟩ := of_ev x
 obtain ⟨kb, hkb⟩ := of_ev y
 obtain ⟨kc, hkc⟩ := cl2_ev hx hy
 obtain ⟨kd, hkd⟩ := least_ev hr
 have Hka := Aside0.mk (hka ka (Nat.le_refl _))
 have Hkb := Aside0.mk (hkb kb (Nat.le_refl _))
 have Hkc := Aside0.mk (hkc kc (Nat.le_refl _))
 have Hkd := Aside0.mk (hkd kd (Nat.le_refl _))
 clear hka hkb hkc hkd hr
 obtain ⟨sx, hsx⟩ : ∃ s, s = zS x := ⟨_, rfl⟩
 obtain ⟨sy, hsy⟩ : ∃ s, s = zS y := ⟨_, rfl⟩
 obtain ⟨sr, hsr⟩ : ∃ s, s = zS (x - y) := ⟨_, rfl⟩
 obtain ⟨lx, hlx⟩ : ∃ s, s = zW x := ⟨_, rfl⟩
 obtain ⟨ly, hly⟩ : ∃ s, s = zW y := ⟨_, rfl⟩
 obtain ⟨lr, hlr⟩ : ∃ s, s = zW (x - y) := ⟨_, rfl⟩
 rw [← hsx, ← hlx] at Hka
 rw [← hsy, ← hly] at Hkb
 rw [← hsx, ← hlx, ← hsy, ← hly, ← hsr, ← hlr] at Hkc
 rw [← hsr, ← hlr] at Hkd
 rw [← hlx] at h0 k0
 rw [← hly] at h2 k2
 rw [← hsx, ← hlx, ← hsy, ← hly, ← hsr, ← hlr]
 clear hsx hsy hsr hlx hly hlr
 have H0 := Aside0.mk h0
 have K0 := Aside0.mk k0
 have H1 := Aside0.mk h1
 have H2 := Aside0.mk h2
 have K2 := Aside0.mk k2
 have H3 := Aside0.mk h3
 clear h0 k0 h1 h2 k2 h3 hx hy
 have hmm := @run_makeMap Try.prog
 have hu66 := Try.underlying66
 have hu120 := Try.underlying120
 have hu64 := Try.underlying64
 go_enter Try.func80, Try.ntmps80
 go_wp2_with fail
 obtain ⟨W0, hW0⟩ : ∃ W0 : World, W0 = ((w.alloc (.cells #[.bool sx, .slice A0 lx.length c0, .bool false, .slice A1 0 c1_] 66 (0, 0))).alloc (.cells #[.bool sy, .slice A2 ly.length c2, .bool false, .slice A3 0 c3] 66 (0, 0))).alloc (.cells #[.bool false, .slice none 0 0, .bool false, .slice none 0 0] 66 (0, 0)) := ⟨_, rfl⟩
 have t3 := three (w := w) (.cells #[.bool sx, .slice A0 lx.length c0, .bool false, .slice A1 0 c1_] 66 (0, 0)) (.cells #[.bool sy, .slice A2 ly.length c2, .bool false, .slice A3 0 c3] 66 (0, 0)) (.cells #[.bool false, .slice none 0 0, .bool false, .slice none 0 0] 66 (0, 0))
 rw [← hW0] at t3
 obtain ⟨s3, b1, b2, b3, hb⟩ := t3
 rw [← hW0, ← s3]
 obtain ⟨gB, hgB⟩ : ∃ g, g = w.heap.size + 1 := ⟨_, rfl⟩
 obtain ⟨gC, hgC⟩ : ∃ g, g = w.heap.size + 1 + 1 := ⟨_, rfl⟩
 obtain ⟨gM, hgM⟩ : ∃ g, g = W0.heap.size := ⟨_, rfl⟩
 rw [← hgC, ← hgB]
 rw [← hgC] at b3
 rw [← hgB] at b2
 have z0 := kinds0 W0
 have BB1 := Aside0.mk b1
 have BB2 := Aside0.mk b2
 have BB3 := Aside0.mk b3
 have HB := Aside0.mk hb
 have HS := Aside0.mk s3
 have HG := Aside0.mk (show gB = w.heap.size + 1 ∧ gC = w.heap.size + 1 + 1 from ⟨hgB, hgC⟩)
 clear b1 b2 b3 hb s3 hW0 hgB hgC
 rw [← hgM] at z0 ⊢
 have HM := Aside0.mk hgM
 have Z0 := Aside0.mk z0
 clear hgM z0
 rw [ins_run _ Z0.out rfl]
 go_wp2_with fail
 rw [ins_run _ (mp_get _ _ Z0.out) rfl]
 go_wp2_with fail
 rw [ins_run _ (mp_get _ _ (mp_get _ _ Z0.out)) rfl]
 go_wp2_with fail
 rw [ins_run _ (mp_get _ _ (mp_get _ _ (mp_get _ _ Z0.out))) rfl]
 go_upto_region 2 with (fail)
 refine wp_gen (F := fun Wk => Wk.heap[gM]? = some (.map kindsE 4) ∧ Wk.heap[w.heap.size]? = some (.cells #[.bool sx, .slice A0 lx.length c0, .bool false, .slice A1 0 c1_] 66 (0, 0)) ∧ Wk.heap[gB]? = some (.cells #[.bool sy, .slice A2 ly.length c2, .bool false, .slice A3 0 c3] 66 (0, 0)) ∧ Wk.heap[gC]? = some (.cells #[.bool false, .slice none 0 0, .bool false, .slice none 0 0] 66 (0, 0)) ∧ Below w.heap.size w Wk) ?_ ?_
 ·have hM := HM.out
  have hG := HG.out
  have hS := HS.out
  have Kk := kinds_get W0
  have ko := @kinds_old W0
  have kb_ := kinds_below HB.out (by omega)
  rw [← hM] at Kk
  have e : ∀ k, k < W0.heap.size → (kindsW W0).heap[k]? = W0.heap[k]? := fun k h => ko h
  subst hM
  exact ⟨Kk, (e _ (by omega)).trans BB1.out, (e _ (by omega)).trans BB2.out, (e _ (by omega)).trans BB3.out, kb_⟩
 rintro Wk ⟨m0, m1, m2, m3, hb⟩
 clear BB1 BB2 BB3 HB Z0
 have BM := Aside0.mk (show Wk.drew.heap[gM]? = some (.map kindsE 4) from m0)
 have BB1 := Aside0.mk (blk_drew m1)
 have BB2 := Aside0.mk (blk_drew m2)
 have BB3 := Aside0.mk (blk_drew m3)
 have HB := Aside0.mk (below_drew1 hb)
 clear m0 m1 m2 m3 hb
 have hget : ∀ W' : World, W'.heap[gM]? = some (.map kindsE 4) → (Instr.lookup 139 (.map (some gM)) (.string { data := #[115, 117, 98] }) false).run Try.prog W' = .ok (.agg #[.func (.func 100) #[] #[]]) W' := fun W' h => get_run h rfl rfl
 have hfd : ∀ W' : World, (Instr.field 138 (.agg #[.func (.func 100) #[] #[]]) 0).run Try.prog W' = .ok (.func (.func 100) #[] #[]) W' := fun _ => by kernel_rfl
 have HGET := Aside0.mk hget
 clear hget
 refine start_ (n := 11) (S := fun w' => w'.cell? ⟨w.heap.size, 0, none⟩ = some (.bool sx) ∧ w'.cell? ⟨w.heap.size, 1, none⟩ = some (.slice A0 lx.length c0) ∧ w'.cell? ⟨w.heap.size, 2, none⟩ = some (.bool false) ∧ w'.cell? ⟨w.heap.size, 3, none⟩ = some (.slice A1 0 c1_) ∧ w'.cell? ⟨gB, 0, none⟩ = some (.bool sy) ∧ w'.cell? ⟨gB, 1, none⟩ = some (.slice A2 ly.length c2) ∧ w'.cell? ⟨gB, 2, none⟩ = some (.bool false) ∧ w'.cell? ⟨gB, 3, none⟩ = some (.slice A3 0 c3) ∧ w'.heap[gM]? = some (.map kindsE 4)) (ds := []) #[false, false, false, false, false, false, false, false, false, false, false] m_13 rfl rfl ⟨(blk_cell BB1.out 0).trans rfl, (blk_cell BB1.out 1).trans rfl, (blk_cell BB1.out 2).trans rfl, (blk_cell BB1.out 3).trans rfl, (blk_cell BB2.out 0).trans rfl, (blk_cell BB2.out 1).trans rfl, (blk_cell BB2.out 2).trans rfl, (blk_cell BB2.out 3).trans rfl, BM.out⟩ (fun hHeld => ?_)
 generalize Wk.drew = Wd at BM BB1 BB2 BB3 HB hHeld ⊢
 refine pB_ 0 ?_
 refine pB_ 1 ?_
 refine take_ (i := 2) (N := some 16) (v := ?_) (a' := ?_) #[true, true, true, false, false, false, false, false, false, false, false] rfl rfl m_13 (fun _ _ _ h => h) (Or.inl ⟨(by rfl), ?_⟩) hHeld ?_ ?_
 rotate_left
 ·rintro w' ⟨s0, s1, s2, s3, s4, s5, s6, s7, s8⟩
  have hg_ := HGET.out w' s8
  go_simp
  with_reducible rfl
 rotate_left
 ·simp only [Act.put, List.setIfInBounds_toArray, List.set_cons_zero, List.set_cons_succ, i64_w, i32_w]
  rfl
 refine pB_ 3 ?_
 refine tB_ 4 hHeld ?_
 refine tB_ 6 hHeld ?_
 refine one_ (i := 5) (N := some 19) #[true, true, true, true, true, true, true, false, false, false, false] rfl rfl m_13 (by decide) (fun K hK => ?_)
 refine goes_ Try.func82 m_13 rfl #[.agg #[.bool sx, .slice A0 lx.length c0, .bool false, .slice A1 0 c1_]] (by rfl) rfl rfl m_23 ?_
 refine (fracK_of.calls ka sx _ A0 c0 lx false _ A1 c1_ [] sx lx false [1] _ (V_of_C (Kd.C_below H0.out HB.out) K0.out) (V_of_C (Kd.C_below H1.out HB.out) (Nat.zero_le _)) Hka.out).mono ?_
 rintro e w1 ⟨v1, v3, rfl, ho1, ho3, hb⟩
 refine ⟨_, rfl, ?_⟩
 obtain ⟨Aa1, ca1, ea1⟩ := Kd.V_slice ho1
 subst ea1
 obtain ⟨Ab1, cb1, eb1⟩ := Kd.V_slice ho3
 subst eb1
 have R1 := Aside0.mk (kdC_of ho1)
 have T1 := Aside0.mk (kdC_of ho3)
 clear ho1 ho3
 replace BM := Aside0.mk (any_below BM.out hb)
 replace BB1 := Aside0.mk (any_below BB1.out hb)
 replace BB2 := Aside0.mk (any_below BB2.out hb)
 replace BB3 := Aside0.mk (any_below BB3.out hb)
 replace HB := Aside0.mk (below_step HB.out hb)
 clear hb
 refine hK.out _ _ ⟨(blk_cell BB1.out 0).trans rfl, (blk_cell BB1.out 1).trans rfl, (blk_cell BB1.out 2).trans rfl, (blk_cell BB1.out 3).trans rfl, (blk_cell BB2.out 0).trans rfl, (blk_cell BB2.out 1).trans rfl, (blk_cell BB2.out 2).trans rfl, (blk_cell BB2.out 3).trans rfl, BM.out⟩ (fun hHeld => ?_)
 clear hK K
 refine norm_ (a' := ?_) ?_ ?_
 rotate_left
 ·show Act.put _ (some 19) _ = _
  simp only [Act.put, List.setIfInBounds_toArray, List.set_cons_zero, List.set_cons_succ, i64_w, i32_w]
  rfl
 refine one_ (i := 7) (N := some 21) #[true, true, true, true, true, true, true, true, false, false, false] rfl rfl m_13 (by decide) (fun K hK => ?_)
 refine goes_ Try.func82 m_13 rfl #[.agg #[.bool sy, .slice A2 ly.length c2, .bool false, .slice A3 0 c3]] (by rfl) rfl rfl m_23 ?_
 refine (fracK_of.calls kb sy _ A2 c2 ly false _ A3 c3 [] sy ly false [1] _ (V_of_C (Kd.C_below H2.out HB.out) K2.out) (V_of_C (Kd.C_below H3.out HB.out) (Nat.zero_le _)) Hkb.out).mono ?_
 rintro e w2 ⟨v1, v3, rfl, ho1, ho3, hb⟩
 refine ⟨_, rfl, ?_⟩
 obtain ⟨Aa2, ca2, ea2⟩ := Kd.V_slice ho1
 subst ea2
 obtain ⟨Ab2, cb2, eb2⟩ := Kd.V_slice ho3
 subst eb2
 have R2 := Aside0.mk (kdC_of ho1)
 have T2 := Aside0.mk (kdC_of ho3)
 clear ho1 ho3
 replace R1 := Aside0.mk (And.intro (Kd.C_below R1.out.1 hb) R1.out.2)
 replace T1 := Aside0.mk (And.intro (Kd.C_below T1.out.1 hb) T1.out.2)
 replace BM := Aside0.mk (any_below BM.out hb)
 replace BB1 := Aside0.mk (any_below BB1.out hb)
 replace BB2 := Aside0.mk (any_below BB2.out hb)
 replace BB3 := Aside0.mk (any_below BB3.out hb)
 replace HB := Aside0.mk (below_step HB.out hb)
 clear hb
 refine hK.out _ _ ⟨(blk_cell BB1.out 0).trans rfl, (blk_cell BB1.out 1).trans rfl, (blk_cell BB1.out 2).trans rfl, (blk_cell BB1.out 3).trans rfl, (blk_cell BB2.out 0).trans rfl, (blk_cell BB2.out 1).trans rfl, (blk_cell BB2.out 2).trans rfl, (blk_cell BB2.out 3).trans rfl, BM.out⟩ (fun hHeld => ?_)
 clear hK K
 refine norm_ (a' := ?_) ?_ ?_
 rotate_left
 ·show Act.put _ (some 21) _ = _
  simp only [Act.put, List.setIfInBounds_toArray, List.set_cons_zero, List.set_cons_succ, i64_w, i32_w]
  rfl
 refine one_ (i := 8) (N := some 22) #[true, true, true, true, true, true, true, true, true, false, false] rfl rfl m_13 (by decide) (fun K hK => ?_)
 refine goesT_ Try.func100 m_13 rfl #[.agg #[.bool sx, .slice Aa1 lx.length ca1, .bool false, .slice Ab1 1 cb1], .agg #[.bool sy, .slice Aa2 ly.length ca2, .bool false, .slice Ab2 1 cb2]] 17 (by rfl) rfl rfl rfl m_23 ?_
 refine (frac_does_2.calls kc sx _ Aa1 ca1 lx false _ Ab1 cb1 [1] sy _ Aa2 ca2 ly false _ Ab2 cb2 [1] sr lr false [1] _ (V_of_C R1.out.1 R1.out.2) (V_of_C T1.out.1 T1.out.2) (V_of_C R2.out.1 R2.out.2) (V_of_C T2.out.1 T2.out.2) Hkc.out).mono ?_
 rintro e w3 ⟨v1, v3, rfl, ho1, ho3, hb⟩
 refine ⟨_, rfl, ?_⟩
 obtain ⟨Aa3, ca3, ea3⟩ := Kd.V_slice ho1
 subst ea3
 obtain ⟨Ab3, cb3, eb3⟩ := Kd.V_slice ho3
 subst eb3
 have R3 := Aside0.mk (kdC_of ho1)
 have T3 := Aside0.mk (kdC_of ho3)
 clear ho1 ho3
 replace BM := Aside0.mk (any_below BM.out hb)
 replace BB1 := Aside0.mk (any_below BB1.out hb)
 replace BB2 := Aside0.mk (any_below BB2.out hb)
 replace BB3 := Aside0.mk (any_below BB3.out hb)
 replace HB := Aside0.mk (below_step HB.out hb)
 clear hb
 refine hK.out _ _ ⟨(blk_cell BB1.out 0).trans rfl, (blk_cell BB1.out 1).trans rfl, (blk_cell BB1.out 2).trans rfl, (blk_cell BB1.out 3).trans rfl, (blk_cell BB2.out 0).trans rfl, (blk_cell BB2.out 1).trans rfl, (blk_cell BB2.out 2).trans rfl, (blk_cell BB2.out 3).trans rfl, BM.out⟩ (fun hHeld => ?_)
 clear hK K
 refine norm_ (a' := ?_) ?_ ?_
 rotate_left
 ·show Act.put _ (some 22) _ = _
  simp only [Act.put, List.setIfInBounds_toArray, List.set_cons_zero, List.set_cons_succ, i64_w, i32_w]
  rfl
 refine one_ (i := 9) (N := some 23) #[true, true, true, true, true, true, true, true, true, true, false] rfl rfl m_13 (by decide) (fun K hK => ?_)
 refine goes_ Try.func104 m_13 rfl #[.agg #[.bool sr, .slice Aa3 lr.length ca3, .bool false, .slice Ab3 1 cb3]] (by rfl) rfl rfl m_23 ?_
 refine (fracK_parts_least.calls kd sr _ Aa3 ca3 lr false _ Ab3 cb3 [1] sr lr false [] _ (V_of_C R3.out.1 R3.out.2) (V_of_C T3.out.1 T3.out.2) Hkd.out).mono ?_
 rintro e w4 ⟨v1, v3, rfl, ho1, ho3, hb⟩
 refine ⟨_, rfl, ?_⟩
 have hsz := below_size HB.out
 replace ho1 := Kd.V_lower (Kd.V_mono ho1 (fun k_ h_ => (⟨Nat.le_trans hsz h_, Kd.freshB BB3.out k_ h_⟩ : w.heap.size ≤ k_ ∧ k_ ≠ gC))) hsz
 replace ho3 := Kd.V_lower (Kd.V_mono ho3 (fun k_ h_ => (⟨Nat.le_trans hsz h_, Kd.freshB BB3.out k_ h_⟩ : w.heap.size ≤ k_ ∧ k_ ≠ gC))) hsz
 obtain ⟨Aa4, ca4, ea4⟩ := Kd.V_slice ho1
 subst ea4
 obtain ⟨Ab4, cb4, eb4⟩ := Kd.V_slice ho3
 subst eb4
 have R4 := Aside0.mk ho1
 have T4 := Aside0.mk ho3
 clear ho1 ho3 hsz
 replace BM := Aside0.mk (any_below BM.out hb)
 replace BB1 := Aside0.mk (any_below BB1.out hb)
 replace BB2 := Aside0.mk (any_below BB2.out hb)
 replace BB3 := Aside0.mk (any_below BB3.out hb)
 replace HB := Aside0.mk (below_step HB.out hb)
 clear hb
 refine hK.out _ _ ⟨(blk_cell BB1.out 0).trans rfl, (blk_cell BB1.out 1).trans rfl, (blk_cell BB1.out 2).trans rfl, (blk_cell BB1.out 3).trans rfl, (blk_cell BB2.out 0).trans rfl, (blk_cell BB2.out 1).trans rfl, (blk_cell BB2.out 2).trans rfl, (blk_cell BB2.out 3).trans rfl, BM.out⟩ (fun hHeld => ?_)
 clear hK K
 refine norm_ (a' := ?_) ?_ ?_
 rotate_left
 ·show Act.put _ (some 23) _ = _
  simp only [Act.put, List.setIfInBounds_toArray, List.set_cons_zero, List.set_cons_succ, i64_w, i32_w]
  rfl
 have hG := HG.out
 have hM_ := HM.out
 have hS_ := HS.out
 have N1 : w.heap.size ≠ gC := by omega
 have N2 : gB ≠ gC := by omega
 have N3 : gM ≠ gC := by omega
 have HN := Aside0.mk (And.intro N1 (And.intro N2 N3))
 have HW := Aside0.mk (show w.heap.size ≤ gC by omega)
 clear hG hM_ hS_ N1 N2 N3
 refine one_ (i := 10) (N := none) #[true, true, true, true, true, true, true, true, true, true, true] rfl rfl m_13 (by decide) (fun K hK => ?_)
 have hz0 : w4.cell? ⟨gC, 0, none⟩ = some (.bool false) := (blk_cell BB3.out 0).trans rfl
 have hz1 : w4.cell? ⟨gC, 1, none⟩ = some (.slice none 0 0) := (blk_cell BB3.out 1).trans rfl
 have hz2 : w4.cell? ⟨gC, 2, none⟩ = some (.bool false) := (blk_cell BB3.out 2).trans rfl
 have hz3 : w4.cell? ⟨gC, 3, none⟩ = some (.slice none 0 0) := (blk_cell BB3.out 3).trans rfl
 have hf0 := blk_frozen BB3.out 0
 have hf1 := blk_frozen BB3.out 1
 have hf2 := blk_frozen BB3.out 2
 have hf3 := blk_frozen BB3.out 3
 refine skip_ (w1 := ?_) (by rfl) rfl ?_ ?_
 rotate_left
 ·go_simp
  rfl
 obtain ⟨q0, q1, q2, q3, q4, q5, q6, q7, q8⟩ := hHeld
 have far : ∀ (b o : Nat) (u : Option Value), b ≠ gC → w4.cell? ⟨b, o, none⟩ = u → ((((w4.setCell ⟨gC, 0, none⟩ (.bool sr)).setCell ⟨gC, 1, none⟩ (.slice Aa4 lr.length ca4)).setCell ⟨gC, 2, none⟩ (.bool false)).setCell ⟨gC, 3, none⟩ (.slice Ab4 ([] : List Int).length cb4)).cell? ⟨b, o, none⟩ = u := fun b o u hb hu => (cell_far (p := ⟨gC, _, none⟩) hb _).trans ((cell_far (p := ⟨gC, _, none⟩) hb _).trans ((cell_far (p := ⟨gC, _, none⟩) hb _).trans ((cell_far (p := ⟨gC, _, none⟩) hb _).trans hu)))
 refine hK.out _ _ ⟨far _ _ _ HN.out.1 q0, far _ _ _ HN.out.1 q1, far _ _ _ HN.out.1 q2, far _ _ _ HN.out.1 q3, far _ _ _ HN.out.2.1 q4, far _ _ _ HN.out.2.1 q5, far _ _ _ HN.out.2.1 q6, far _ _ _ HN.out.2.1 q7, (Below.heap_setCell _ _ _ _ HN.out.2.2).trans ((Below.heap_setCell _ _ _ _ HN.out.2.2).trans ((Below.heap_setCell _ _ _ _ HN.out.2.2).trans ((Below.heap_setCell _ _ _ _ HN.out.2.2).trans q8)))⟩ (fun hHeld => ?_)
 clear hK K
 refine done_ m_13 ?_
 try go_wp2
 refine bodyPost_ret (results_cell_row rfl _ _ gC 66 #[.bool sr, .slice Aa4 lr.length ca4, .bool false, .slice Ab4 ([] : List Int).length cb4] (0, 0) _ rfl m_47 Try.underlying66 rfl m_13) rfl ?_
 refine ⟨_, _, rfl, ?_, ?_, ?_⟩
 ·exact Kd.V_mono (Kd.V_far (p := ⟨gC, 3, none⟩) (Kd.V_far (p := ⟨gC, 2, none⟩) (Kd.V_far (p := ⟨gC, 1, none⟩) (Kd.V_far (p := ⟨gC, 0, none⟩) R4.out (fun _ hk => hk.2) _) (fun _ hk => hk.2) _) (fun _ hk => hk.2) _) (fun _ hk => hk.2) _) (fun _ hk => hk.1)
 ·exact Kd.V_mono (Kd.V_far (p := ⟨gC, 3, none⟩) (Kd.V_far (p := ⟨gC, 2, none⟩) (Kd.V_far (p := ⟨gC, 1, none⟩) (Kd.V_far (p := ⟨gC, 0, none⟩) T4.out (fun _ hk => hk.2) _) (fun _ hk => hk.2) _) (fun _ hk => hk.2) _) (fun _ hk => hk.2) _) (fun _ hk => hk.1)
 ·exact below_set (below_set (below_set (below_set HB.out HW.out) HW.out) HW.out) HW.out
set_option maxHeartbeats 8000000 in
set_option maxRecDepth 100000 in
theorem does3_calls {x y : Int} (hx : x.natAbs < 4294967296) (hy : y.natAbs < 4294967296) (hr : (x * y).natAbs < 18446744073709551616) (A0 : Option Addr) (c0 : Nat) (A1 : Option Addr) (c1_ : Nat) (A2 : Option Addr) (c2 : Nat) (A3 : Option Addr) (c3 : Nat) (w : World) (h0 : Kd.C (Kd.int .u32) w A0 (zW x).length (zW x)) (k0 : (zW x).length ≤ c0) (h1 : Kd.C (Kd.int .u32) w A1 ([] : List Int).length []) (h2 : Kd.C (Kd.int .u32) w A2 (zW y).length (zW y)) (k2 : (zW y).length ≤ c2) (h3 : Kd.C (Kd.int .u32) w A3 ([] : List Int).length []) :
  Calls Try.prog 80 #[.string { data := #[109, 117, 108] }, .agg #[.bool (zS x), .slice A0 (zW x).length c0, .bool false, .slice A1 0 c1_], .agg #[.bool (zS y), .slice A2 (zW y).length c2, .bool false, .slice A3 0 c3]] w fun e w' => ∃ v1_ v3_ : Value, e = .returned (.agg #[.bool (zS (x * y)), v1_, .bool false, v3_]) ∧ Kd.V (Kd.int .u32) 117 w' w.heap.size (fun k_ => (w.heap.size ≤ k_)) v1_ (zW (x * y)) ∧ Kd.V (Kd.int .u32) 117 w' w.heap.size (fun k_ => (w.heap.size ≤ k_)) v3_ [] ∧ Below w.heap.size w w' := by
 obtain ⟨ka, hka⟩ := of_ev x
 obtain ⟨kb, hkb⟩ := of_ev y
 obtain ⟨kc, hkc⟩ := cl3_ev hx hy
 obtain ⟨kd, hkd⟩ := least_ev hr
 have Hka := Aside0.mk (hka ka (Nat.le_refl _))
 have Hkb := Aside0.mk (hkb kb (Nat.le_refl _))
 have Hkc := Aside0.mk (hkc kc (Nat.le_refl _))
 have Hkd := Aside0.mk (hkd kd (Nat.le_refl _))
 clear hka hkb hkc hkd hr
 obtain ⟨sx, hsx⟩ : ∃ s, s = zS x := ⟨_, rfl⟩
 obtain ⟨sy, hsy⟩ : ∃ s, s = zS y := ⟨_, rfl⟩
 obtain ⟨sr, hsr⟩ : ∃ s, s = zS (x * y) := ⟨_, rfl⟩
 obtain ⟨lx, hlx⟩ : ∃ s, s = zW x := ⟨_, rfl⟩
 obtain ⟨ly, hly⟩ : ∃ s, s = zW y := ⟨_, rfl⟩
 obtain ⟨lr, hlr⟩ : ∃ s, s = zW (x * y) := ⟨_, rfl⟩
 rw [← hsx, ← hlx] at Hka
 rw [← hsy, ← hly] at Hkb
 rw [← hsx, ← hlx, ← hsy, ← hly, ← hsr, ← hlr] at Hkc
 rw [← hsr, ← hlr] at Hkd
 rw [← hlx] at h0 k0
 rw [← hly] at h2 k2
 rw [← hsx, ← hlx, ← hsy, ← hly, ← hsr, ← hlr]
 clear hsx hsy hsr hlx hly hlr
 have H0 := Aside0.mk h0
 have K0 := Aside0.mk k0
 have H1 := Aside0.mk h1
 have H2 := Aside0.mk h2
 have K2 := Aside0.mk k2
 have H3 := Aside0.mk h3
 clear h0 k0 h1 h2 k2 h3 hx hy
 have hmm := @run_makeMap Try.prog
 have hu66 := Try.underlying66
 have hu120 := Try.underlying120
 have hu64 := Try.underlying64
 go_enter Try.func80, Try.ntmps80
 go_wp2_with fail
 obtain ⟨W0, hW0⟩ : ∃ W0 : World, W0 = ((w.alloc (.cells #[.bool sx, .slice A0 lx.length c0, .bool false, .slice A1 0 c1_] 66 (0, 0))).alloc (.cells #[.bool sy, .slice A2 ly.length c2, .bool false, .slice A3 0 c3] 66 (0, 0))).alloc (.cells #[.bool false, .slice none 0 0, .bool false, .slice none 0 0] 66 (0, 0)) := ⟨_, rfl⟩
 have t3 := three (w := w) (.cells #[.bool sx, .slice A0 lx.length c0, .bool false, .slice A1 0 c1_] 66 (0, 0)) (.cells #[.bool sy, .slice A2 ly.length c2, .bool false, .slice A3 0 c3] 66 (0, 0)) (.cells #[.bool false, .slice none 0 0, .bool false, .slice none 0 0] 66 (0, 0))
 rw [← hW0] at t3
 obtain ⟨s3, b1, b2, b3, hb⟩ := t3
 rw [← hW0, ← s3]
 obtain ⟨gB, hgB⟩ : ∃ g, g = w.heap.size + 1 := ⟨_, rfl⟩
 obtain ⟨gC, hgC⟩ : ∃ g, g = w.heap.size + 1 + 1 := ⟨_, rfl⟩
 obtain ⟨gM, hgM⟩ : ∃ g, g = W0.heap.size := ⟨_, rfl⟩
 rw [← hgC, ← hgB]
 rw [← hgC] at b3
 rw [← hgB] at b2
 have z0 := kinds0 W0
 have BB1 := Aside0.mk b1
 have BB2 := Aside0.mk b2
 have BB3 := Aside0.mk b3
 have HB := Aside0.mk hb
 have HS := Aside0.mk s3
 have HG := Aside0.mk (show gB = w.heap.size + 1 ∧ gC = w.heap.size + 1 + 1 from ⟨hgB, hgC⟩)
 clear b1 b2 b3 hb s3 hW0 hgB hgC
 rw [← hgM] at z0 ⊢
 have HM := Aside0.mk hgM
 have Z0 := Aside0.mk z0
 clear hgM z0
 rw [ins_run _ Z0.out rfl]
 go_wp2_with fail
 rw [ins_run _ (mp_get _ _ Z0.out) rfl]
 go_wp2_with fail
 rw [ins_run _ (mp_get _ _ (mp_get _ _ Z0.out)) rfl]
 go_wp2_with fail
 rw [ins_run _ (mp_get _ _ (mp_get _ _ (mp_get _ _ Z0.out))) rfl]
 go_upto_region 2 with (fail)
 refine wp_gen (F := fun Wk => Wk.heap[gM]? = some (.map kindsE 4) ∧ Wk.heap[w.heap.size]? = some (.cells #[.bool sx, .slice A0 lx.length c0, .bool false, .slice A1 0 c1_] 66 (0, 0)) ∧ Wk.heap[gB]? = some (.cells #[.bool sy, .slice A2 ly.length c2, .bool false, .slice A3 0 c3] 66 (0, 0)) ∧ Wk.heap[gC]? = some (.cells #[.bool false, .slice none 0 0, .bool false, .slice none 0 0] 66 (0, 0)) ∧ Below w.heap.size w Wk) ?_ ?_
 ·have hM := HM.out
  have hG := HG.out
  have hS := HS.out
  have Kk := kinds_get W0
  have ko := @kinds_old W0
  have kb_ := kinds_below HB.out (by omega)
  rw [← hM] at Kk
  have e : ∀ k, k < W0.heap.size → (kindsW W0).heap[k]? = W0.heap[k]? := fun k h => ko h
  subst hM
  exact ⟨Kk, (e _ (by omega)).trans BB1.out, (e _ (by omega)).trans BB2.out, (e _ (by omega)).trans BB3.out, kb_⟩
 rintro Wk ⟨m0, m1, m2, m3, hb⟩
 clear BB1 BB2 BB3 HB Z0
 have BM := Aside0.mk (show Wk.drew.heap[gM]? = some (.map kindsE 4) from m0)
 have BB1 := Aside0.mk (blk_drew m1)
 have BB2 := Aside0.mk (blk_drew m2)
 have BB3 := Aside0.mk (blk_drew m3)
 have HB := Aside0.mk (below_drew1 hb)
 clear m0 m1 m2 m3 hb
 have hget : ∀ W' : World, W'.heap[gM]? = some (.map kindsE 4) → (Instr.lookup 139 (.map (some gM)) (.string { data := #[109, 117, 108] }) false).run Try.prog W' = .ok (.agg #[.func (.func 102) #[] #[]]) W' := fun W' h => get_run h rfl rfl
 have hfd : ∀ W' : World, (Instr.field 138 (.agg #[.func (.func 102) #[] #[]]) 0).run Try.prog W' = .ok (.func (.func 102) #[] #[]) W' := fun _ => by kernel_rfl
 have HGET := Aside0.mk hget
 clear hget
 refine start_ (n := 11) (S := fun w' => w'.cell? ⟨w.heap.size, 0, none⟩ = some (.bool sx) ∧ w'.cell? ⟨w.heap.size, 1, none⟩ = some (.slice A0 lx.length c0) ∧ w'.cell? ⟨w.heap.size, 2, none⟩ = some (.bool false) ∧ w'.cell? ⟨w.heap.size, 3, none⟩ = some (.slice A1 0 c1_) ∧ w'.cell? ⟨gB, 0, none⟩ = some (.bool sy) ∧ w'.cell? ⟨gB, 1, none⟩ = some (.slice A2 ly.length c2) ∧ w'.cell? ⟨gB, 2, none⟩ = some (.bool false) ∧ w'.cell? ⟨gB, 3, none⟩ = some (.slice A3 0 c3) ∧ w'.heap[gM]? = some (.map kindsE 4)) (ds := []) #[false, false, false, false, false, false, false, false, false, false, false] m_13 rfl rfl ⟨(blk_cell BB1.out 0).trans rfl, (blk_cell BB1.out 1).trans rfl, (blk_cell BB1.out 2).trans rfl, (blk_cell BB1.out 3).trans rfl, (blk_cell BB2.out 0).trans rfl, (blk_cell BB2.out 1).trans rfl, (blk_cell BB2.out 2).trans rfl, (blk_cell BB2.out 3).trans rfl, BM.out⟩ (fun hHeld => ?_)
 generalize Wk.drew = Wd at BM BB1 BB2 BB3 HB hHeld ⊢
 refine pB_ 0 ?_
 refine pB_ 1 ?_
 refine take_ (i := 2) (N := some 16) (v := ?_) (a' := ?_) #[true, true, true, false, false, false, false, false, false, false, false] rfl rfl m_13 (fun _ _ _ h => h) (Or.inl ⟨(by rfl), ?_⟩) hHeld ?_ ?_
 rotate_left
 ·rintro w' ⟨s0, s1, s2, s3, s4, s5, s6, s7, s8⟩
  have hg_ := HGET.out w' s8
  go_simp
  with_reducible rfl
 rotate_left
 ·simp only [Act.put, List.setIfInBounds_toArray, List.set_cons_zero, List.set_cons_succ, i64_w, i32_w]
  rfl
 refine pB_ 3 ?_
 refine tB_ 4 hHeld ?_
 refine tB_ 6 hHeld ?_
 refine one_ (i := 5) (N := some 19) #[true, true, true, true, true, true, true, false, false, false, false] rfl rfl m_13 (by decide) (fun K hK => ?_)
 refine goes_ Try.func82 m_13 rfl #[.agg #[.bool sx, .slice A0 lx.length c0, .bool false, .slice A1 0 c1_]] (by rfl) rfl rfl m_23 ?_
 refine (fracK_of.calls ka sx _ A0 c0 lx false _ A1 c1_ [] sx lx false [1] _ (V_of_C (Kd.C_below H0.out HB.out) K0.out) (V_of_C (Kd.C_below H1.out HB.out) (Nat.zero_le _)) Hka.out).mono ?_
 rintro e w1 ⟨v1, v3, rfl, ho1, ho3, hb⟩
 refine ⟨_, rfl, ?_⟩
 obtain ⟨Aa1, ca1, ea1⟩ := Kd.V_slice ho1
 subst ea1
 obtain ⟨Ab1, cb1, eb1⟩ := Kd.V_slice ho3
 subst eb1
 have R1 := Aside0.mk (kdC_of ho1)
 have T1 := Aside0.mk (kdC_of ho3)
 clear ho1 ho3
 replace BM := Aside0.mk (any_below BM.out hb)
 replace BB1 := Aside0.mk (any_below BB1.out hb)
 replace BB2 := Aside0.mk (any_below BB2.out hb)
 replace BB3 := Aside0.mk (any_below BB3.out hb)
 replace HB := Aside0.mk (below_step HB.out hb)
 clear hb
 refine hK.out _ _ ⟨(blk_cell BB1.out 0).trans rfl, (blk_cell BB1.out 1).trans rfl, (blk_cell BB1.out 2).trans rfl, (blk_cell BB1.out 3).trans rfl, (blk_cell BB2.out 0).trans rfl, (blk_cell BB2.out 1).trans rfl, (blk_cell BB2.out 2).trans rfl, (blk_cell BB2.out 3).trans rfl, BM.out⟩ (fun hHeld => ?_)
 clear hK K
 refine norm_ (a' := ?_) ?_ ?_
 rotate_left
 ·show Act.put _ (some 19) _ = _
  simp only [Act.put, List.setIfInBounds_toArray, List.set_cons_zero, List.set_cons_succ, i64_w, i32_w]
  rfl
 refine one_ (i := 7) (N := some 21) #[true, true, true, true, true, true, true, true, false, false, false] rfl rfl m_13 (by decide) (fun K hK => ?_)
 refine goes_ Try.func82 m_13 rfl #[.agg #[.bool sy, .slice A2 ly.length c2, .bool false, .slice A3 0 c3]] (by rfl) rfl rfl m_23 ?_
 refine (fracK_of.calls kb sy _ A2 c2 ly false _ A3 c3 [] sy ly false [1] _ (V_of_C (Kd.C_below H2.out HB.out) K2.out) (V_of_C (Kd.C_below H3.out HB.out) (Nat.zero_le _)) Hkb.out).mono ?_
 rintro e w2 ⟨v1, v3, rfl, ho1, ho3, hb⟩
 refine ⟨_, rfl, ?_⟩
 obtain ⟨Aa2, ca2, ea2⟩ := Kd.V_slice ho1
 subst ea2
 obtain ⟨Ab2, cb2, eb2⟩ := Kd.V_slice ho3
 subst eb2
 have R2 := Aside0.mk (kdC_of ho1)
 have T2 := Aside0.mk (kdC_of ho3)
 clear ho1 ho3
 replace R1 := Aside0.mk (And.intro (Kd.C_below R1.out.1 hb) R1.out.2)
 replace T1 := Aside0.mk (And.intro (Kd.C_below T1.out.1 hb) T1.out.2)
 replace BM := Aside0.mk (any_below BM.out hb)
 replace BB1 := Aside0.mk (any_below BB1.out hb)
 replace BB2 := Aside0.mk (any_below BB2.out hb)
 replace BB3 := Aside0.mk (any_below BB3.out hb)
 replace HB := Aside0.mk (below_step HB.out hb)
 clear hb
 refine hK.out _ _ ⟨(blk_cell BB1.out 0).trans rfl, (blk_cell BB1.out 1).trans rfl, (blk_cell BB1.out 2).trans rfl, (blk_cell BB1.out 3).trans rfl, (blk_cell BB2.out 0).trans rfl, (blk_cell BB2.out 1).trans rfl, (blk_cell BB2.out 2).trans rfl, (blk_cell BB2.out 3).trans rfl, BM.out⟩ (fun hHeld => ?_)
 clear hK K
 refine norm_ (a' := ?_) ?_ ?_
 rotate_left
 ·show Act.put _ (some 21) _ = _
  simp only [Act.put, List.setIfInBounds_toArray, List.set_cons_zero, List.set_cons_succ, i64_w, i32_w]
  rfl
 refine one_ (i := 8) (N := some 22) #[true, true, true, true, true, true, true, true, true, false, false] rfl rfl m_13 (by decide) (fun K hK => ?_)
 refine goesT_ Try.func102 m_13 rfl #[.agg #[.bool sx, .slice Aa1 lx.length ca1, .bool false, .slice Ab1 1 cb1], .agg #[.bool sy, .slice Aa2 ly.length ca2, .bool false, .slice Ab2 1 cb2]] 17 (by rfl) rfl rfl rfl m_23 ?_
 refine (frac_does_3.calls kc sx _ Aa1 ca1 lx false _ Ab1 cb1 [1] sy _ Aa2 ca2 ly false _ Ab2 cb2 [1] sr lr false [1] _ (V_of_C R1.out.1 R1.out.2) (V_of_C T1.out.1 T1.out.2) (V_of_C R2.out.1 R2.out.2) (V_of_C T2.out.1 T2.out.2) Hkc.out).mono ?_
 rintro e w3 ⟨v1, v3, rfl, ho1, ho3, hb⟩
 refine ⟨_, rfl, ?_⟩
 obtain ⟨Aa3, ca3, ea3⟩ := Kd.V_slice ho1
 subst ea3
 obtain ⟨Ab3, cb3, eb3⟩ := Kd.V_slice ho3
 subst eb3
 have R3 := Aside0.mk (kdC_of ho1)
 have T3 := Aside0.mk (kdC_of ho3)
 clear ho1 ho3
 replace BM := Aside0.mk (any_below BM.out hb)
 replace BB1 := Aside0.mk (any_below BB1.out hb)
 replace BB2 := Aside0.mk (any_below BB2.out hb)
 replace BB3 := Aside0.mk (any_below BB3.out hb)
 replace HB := Aside0.mk (below_step HB.out hb)
 clear hb
 refine hK.out _ _ ⟨(blk_cell BB1.out 0).trans rfl, (blk_cell BB1.out 1).trans rfl, (blk_cell BB1.out 2).trans rfl, (blk_cell BB1.out 3).trans rfl, (blk_cell BB2.out 0).trans rfl, (blk_cell BB2.out 1).trans rfl, (blk_cell BB2.out 2).trans rfl, (blk_cell BB2.out 3).trans rfl, BM.out⟩ (fun hHeld => ?_)
 clear hK K
 refine norm_ (a' := ?_) ?_ ?_
 rotate_left
 ·show Act.put _ (some 22) _ = _
  simp only [Act.put, List.setIfInBounds_toArray, List.set_cons_zero, List.set_cons_succ, i64_w, i32_w]
  rfl
 refine one_ (i := 9) (N := some 23) #[true, true, true, true, true, true, true, true, true, true, false] rfl rfl m_13 (by decide) (fun K hK => ?_)
 refine goes_ Try.func104 m_13 rfl #[.agg #[.bool sr, .slice Aa3 lr.length ca3, .bool false, .slice Ab3 1 cb3]] (by rfl) rfl rfl m_23 ?_
 refine (fracK_parts_least.calls kd sr _ Aa3 ca3 lr false _ Ab3 cb3 [1] sr lr false [] _ (V_of_C R3.out.1 R3.out.2) (V_of_C T3.out.1 T3.out.2) Hkd.out).mono ?_
 rintro e w4 ⟨v1, v3, rfl, ho1, ho3, hb⟩
 refine ⟨_, rfl, ?_⟩
 have hsz := below_size HB.out
 replace ho1 := Kd.V_lower (Kd.V_mono ho1 (fun k_ h_ => (⟨Nat.le_trans hsz h_, Kd.freshB BB3.out k_ h_⟩ : w.heap.size ≤ k_ ∧ k_ ≠ gC))) hsz
 replace ho3 := Kd.V_lower (Kd.V_mono ho3 (fun k_ h_ => (⟨Nat.le_trans hsz h_, Kd.freshB BB3.out k_ h_⟩ : w.heap.size ≤ k_ ∧ k_ ≠ gC))) hsz
 obtain ⟨Aa4, ca4, ea4⟩ := Kd.V_slice ho1
 subst ea4
 obtain ⟨Ab4, cb4, eb4⟩ := Kd.V_slice ho3
 subst eb4
 have R4 := Aside0.mk ho1
 have T4 := Aside0.mk ho3
 clear ho1 ho3 hsz
 replace BM := Aside0.mk (any_below BM.out hb)
 replace BB1 := Aside0.mk (any_below BB1.out hb)
 replace BB2 := Aside0.mk (any_below BB2.out hb)
 replace BB3 := Aside0.mk (any_below BB3.out hb)
 replace HB := Aside0.mk (below_step HB.out hb)
 clear hb
 refine hK.out _ _ ⟨(blk_cell BB1.out 0).trans rfl, (blk_cell BB1.out 1).trans rfl, (blk_cell BB1.out 2).trans rfl, (blk_cell BB1.out 3).trans rfl, (blk_cell BB2.out 0).trans rfl, (blk_cell BB2.out 1).trans rfl, (blk_cell BB2.out 2).trans rfl, (blk_cell BB2.out 3).trans rfl, BM.out⟩ (fun hHeld => ?_)
 clear hK K
 refine norm_ (a' := ?_) ?_ ?_
 rotate_left
 ·show Act.put _ (some 23) _ = _
  simp only [Act.put, List.setIfInBounds_toArray, List.set_cons_zero, List.set_cons_succ, i64_w, i32_w]
  rfl
 have hG := HG.out
 have hM_ := HM.out
 have hS_ := HS.out
 have N1 : w.heap.size ≠ gC := by omega
 have N2 : gB ≠ gC := by omega
 have N3 : gM ≠ gC := by omega
 have HN := Aside0.mk (And.intro N1 (And.intro N2 N3))
 have HW := Aside0.mk (show w.heap.size ≤ gC by omega)
 clear hG hM_ hS_ N1 N2 N3
 refine one_ (i := 10) (N := none) #[true, true, true, true, true, true, true, true, true, true, true] rfl rfl m_13 (by decide) (fun K hK => ?_)
 have hz0 : w4.cell? ⟨gC, 0, none⟩ = some (.bool false) := (blk_cell BB3.out 0).trans rfl
 have hz1 : w4.cell? ⟨gC, 1, none⟩ = some (.slice none 0 0) := (blk_cell BB3.out 1).trans rfl
 have hz2 : w4.cell? ⟨gC, 2, none⟩ = some (.bool false) := (blk_cell BB3.out 2).trans rfl
 have hz3 : w4.cell? ⟨gC, 3, none⟩ = some (.slice none 0 0) := (blk_cell BB3.out 3).trans rfl
 have hf0 := blk_frozen BB3.out 0
 have hf1 := blk_frozen BB3.out 1
 have hf2 := blk_frozen BB3.out 2
 have hf3 := blk_frozen BB3.out 3
 refine skip_ (w1 := ?_) (by rfl) rfl ?_ ?_
 rotate_left
 ·go_simp
  rfl
 obtain ⟨q0, q1, q2, q3, q4, q5, q6, q7, q8⟩ := hHeld
 have far : ∀ (b o : Nat) (u : Option Value), b ≠ gC → w4.cell? ⟨b, o, none⟩ = u → ((((w4.setCell ⟨gC, 0, none⟩ (.bool sr)).setCell ⟨gC, 1, none⟩ (.slice Aa4 lr.length ca4)).setCell ⟨gC, 2, none⟩ (.bool false)).setCell ⟨gC, 3, none⟩ (.slice Ab4 ([] : List Int).length cb4)).cell? ⟨b, o, none⟩ = u := fun b o u hb hu => (cell_far (p := ⟨gC, _, none⟩) hb _).trans ((cell_far (p := ⟨gC, _, none⟩) hb _).trans ((cell_far (p := ⟨gC, _, none⟩) hb _).trans ((cell_far (p := ⟨gC, _, none⟩) hb _).trans hu)))
 refine hK.out _ _ ⟨far _ _ _ HN.out.1 q0, far _ _ _ HN.out.1 q1, far _ _ _ HN.out.1 q2, far _ _ _ HN.out.1 q3, far _ _ _ HN.out.2.1 q4, far _ _ _ HN.out.2.1 q5, far _ _ _ HN.out.2.1 q6, far _ _ _ HN.out.2.1 q7, (Below.heap_setCell _ _ _ _ HN.out.2.2).trans ((Below.heap_setCell _ _ _ _ HN.out.2.2).trans ((Below.heap_setCell _ _ _ _ HN.out.2.2).trans ((Below.heap_setCell _ _ _ _ HN.out.2.2).trans q8)))⟩ (fun hHeld => ?_)
 clear hK K
 refine done_ m_13 ?_
 try go_wp2
 refine bodyPost_ret (results_cell_row rfl _ _ gC 66 #[.bool sr, .slice Aa4 lr.length ca4, .bool false, .slice Ab4 ([] : List Int).length cb4] (0, 0) _ rfl m_47 Try.underlying66 rfl m_13) rfl ?_
 refine ⟨_, _, rfl, ?_, ?_, ?_⟩
 ·exact Kd.V_mono (Kd.V_far (p := ⟨gC, 3, none⟩) (Kd.V_far (p := ⟨gC, 2, none⟩) (Kd.V_far (p := ⟨gC, 1, none⟩) (Kd.V_far (p := ⟨gC, 0, none⟩) R4.out (fun _ hk => hk.2) _) (fun _ hk => hk.2) _) (fun _ hk => hk.2) _) (fun _ hk => hk.2) _) (fun _ hk => hk.1)
 ·exact Kd.V_mono (Kd.V_far (p := ⟨gC, 3, none⟩) (Kd.V_far (p := ⟨gC, 2, none⟩) (Kd.V_far (p := ⟨gC, 1, none⟩) (Kd.V_far (p := ⟨gC, 0, none⟩) T4.out (fun _ hk => hk.2) _) (fun _ hk => hk.2) _) (fun _ hk => hk.2) _) (fun _ hk => hk.2) _) (fun _ hk => hk.1)
 ·exact below_set (below_set (below_set (below_set HB.out HW.out) HW.out) HW.out) HW.out
def frac_does.f (what : ByteArray) (a : Bool) (l : List Int) (b : Bool) (m : List Int) (a' : Bool) (l' : List Int) (b' : Bool) (m' : List Int) : Option (Bool × List Int × Bool × List Int) :=
 if okQ a l b m ∧ okQ a' l' b' m' then
  (if what = ⟨#[97, 100, 100]⟩ then some (zS (zV a l + zV a' l'), zW (zV a l + zV a' l'), false, [])
  else if what = ⟨#[115, 117, 98]⟩ then some (zS (zV a l - zV a' l'), zW (zV a l - zV a' l'), false, [])
  else if what = ⟨#[109, 117, 108]⟩ ∧ smallQ a l ∧ smallQ a' l' then some (zS (zV a l * zV a' l'), zW (zV a l * zV a' l'), false, [])
  else none) else none
theorem ok_open {a : Bool} {l : List Int} {b : Bool} {m : List Int} (h : okQ a l b m) : ∃ x, sm x ∧ zV a l = x ∧ a = zS x ∧ l = zW x ∧ b = false ∧ m = [] := by
 obtain ⟨h1, h2, h3, h4, h5, h6⟩ := h
 exact ⟨zV a l, ⟨h3, h4⟩, rfl, h5, h6, h1, h2⟩
theorem frac_does.calls (what : ByteArray) (a0_0 : Bool) (A0_1 : Option Addr) (c0_1 : Nat) (l0_1 : List Int) (a0_2 : Bool) (A0_3 : Option Addr) (c0_3 : Nat) (l0_3 : List Int) (a1_0 : Bool) (A1_1 : Option Addr) (c1_1 : Nat) (l1_1 : List Int) (a1_2 : Bool) (A1_3 : Option Addr) (c1_3 : Nat) (l1_3 : List Int) (r1 : Bool) (r2 : List Int) (r3 : Bool) (r4 : List Int) (w : World) (hr0_1 : Kd.C (Kd.int .u32) w A0_1 l0_1.length l0_1) (hc0_1 : l0_1.length ≤ c0_1) (hr0_3 : Kd.C (Kd.int .u32) w A0_3 l0_3.length l0_3) (hc0_3 : l0_3.length ≤ c0_3) (hr1_1 : Kd.C (Kd.int .u32) w A1_1 l1_1.length l1_1) (hc1_1 : l1_1.length ≤ c1_1) (hr1_3 : Kd.C (Kd.int .u32) w A1_3 l1_3.length l1_3) (hc1_3 : l1_3.length ≤ c1_3) (h : frac_does.f what a0_0 l0_1 a0_2 l0_3 a1_0 l1_1 a1_2 l1_3 = some (r1, r2, r3, r4)) :
  Calls Try.prog 80 #[.string what, .agg #[.bool a0_0, .slice A0_1 l0_1.length c0_1, .bool a0_2, .slice A0_3 l0_3.length c0_3], .agg #[.bool a1_0, .slice A1_1 l1_1.length c1_1, .bool a1_2, .slice A1_3 l1_3.length c1_3]] w fun e w' => ∃ v1_ v3_ : Value, e = .returned (.agg #[.bool r1, v1_, .bool r3, v3_]) ∧ Kd.V (Kd.int .u32) 117 w' w.heap.size (fun k_ => (w.heap.size ≤ k_)) v1_ r2 ∧ Kd.V (Kd.int .u32) 117 w' w.heap.size (fun k_ => (w.heap.size ≤ k_)) v3_ r4 ∧ Below w.heap.size w w' := by
 unfold frac_does.f at h
 by_cases hp : okQ a0_0 l0_1 a0_2 l0_3 ∧ okQ a1_0 l1_1 a1_2 l1_3
 ·rw [if_pos hp] at h
  obtain ⟨x, hx, ex, rfl, rfl, rfl, rfl⟩ := ok_open hp.1
  obtain ⟨y, hy, ey, rfl, rfl, rfl, rfl⟩ := ok_open hp.2
  rw [ex, ey] at h
  have hx' := hx
  have hy' := hy
  unfold sm at hx' hy'
  by_cases h1 : what = ⟨#[97, 100, 100]⟩
  ·rw [if_pos h1] at h
   subst h1
   simp only [Option.some.injEq, Prod.mk.injEq] at h
   obtain ⟨rfl, rfl, rfl, rfl⟩ := h
   exact does1_calls hx hy (by omega) A0_1 c0_1 A0_3 c0_3 A1_1 c1_1 A1_3 c1_3 w hr0_1 hc0_1 hr0_3 hr1_1 hc1_1 hr1_3
  ·rw [if_neg h1] at h
   by_cases h2 : what = ⟨#[115, 117, 98]⟩
   ·rw [if_pos h2] at h
    subst h2
    simp only [Option.some.injEq, Prod.mk.injEq] at h
    obtain ⟨rfl, rfl, rfl, rfl⟩ := h
    exact does2_calls hx hy (by omega) A0_1 c0_1 A0_3 c0_3 A1_1 c1_1 A1_3 c1_3 w hr0_1 hc0_1 hr0_3 hr1_1 hc1_1 hr1_3
   ·rw [if_neg h2] at h
    by_cases h3 : what = ⟨#[109, 117, 108]⟩ ∧ smallQ (zS x) (zW x) ∧ smallQ (zS y) (zW y)
    ·rw [if_pos h3] at h
     obtain ⟨rfl, s1, s2⟩ := h3
     unfold smallQ at s1 s2
     rw [ex] at s1
     rw [ey] at s2
     simp only [Option.some.injEq, Prod.mk.injEq] at h
     obtain ⟨rfl, rfl, rfl, rfl⟩ := h
     have hp : (x * y).natAbs < 18446744073709551616 := by
      rw [Int.natAbs_mul]
      have h1 : x.natAbs * y.natAbs ≤ 4294967295 * 4294967295 := Nat.mul_le_mul (by omega) (by omega)
      omega
     exact does3_calls (by omega) (by omega) hp A0_1 c0_1 A0_3 c0_3 A1_1 c1_1 A1_3 c1_3 w hr0_1 hc0_1 hr0_3 hr1_1 hc1_1 hr1_3
    ·rw [if_neg h3] at h
     cases h
 ·rw [if_neg hp] at h
  cases h
end Go.Proofs.Ytelklgdmhnkenaa.U
namespace Go.Proofs.Ytelklgdmhnkenaa.U
attribute [local go_sem] max2_int min2_int max_two min_two max_three min_three max_four min_four
def fracK_Add.f (a0_0 : Bool) (l0_1 : List Int) (a0_2 : Bool) (l0_3 : List Int) (a1_0 : Bool) (l1_1 : List Int) (a1_2 : Bool) (l1_3 : List Int) : Option (Bool × List Int × Bool × List Int) := (frac_does.f (⟨#[97, 100, 100]⟩ : ByteArray) a0_0 l0_1 a0_2 l0_3 a1_0 l1_1 a1_2 l1_3).bind fun bt724 => (some (bt724.1, bt724.2.1, bt724.2.2.1, bt724.2.2.2))
set_option maxHeartbeats 8000000 in
set_option maxRecDepth 100000 in
theorem fracK_Add.calls (a0_0 : Bool) (A0_1 : Option Addr) (c0_1 : Nat) (l0_1 : List Int) (a0_2 : Bool) (A0_3 : Option Addr) (c0_3 : Nat) (l0_3 : List Int) (a1_0 : Bool) (A1_1 : Option Addr) (c1_1 : Nat) (l1_1 : List Int) (a1_2 : Bool) (A1_3 : Option Addr) (c1_3 : Nat) (l1_3 : List Int) (r1 : Bool) (r2 : List Int) (r3 : Bool) (r4 : List Int) (w : World) (hr0_1 : Kd.C (Kd.int .u32) w A0_1 l0_1.length l0_1) (hc0_1 : l0_1.length ≤ c0_1) (hr0_3 : Kd.C (Kd.int .u32) w A0_3 l0_3.length l0_3) (hc0_3 : l0_3.length ≤ c0_3) (hr1_1 : Kd.C (Kd.int .u32) w A1_1 l1_1.length l1_1) (hc1_1 : l1_1.length ≤ c1_1) (hr1_3 : Kd.C (Kd.int .u32) w A1_3 l1_3.length l1_3) (hc1_3 : l1_3.length ≤ c1_3) (h : fracK_Add.f a0_0 l0_1 a0_2 l0_3 a1_0 l1_1 a1_2 l1_3 = some (r1, r2, r3, r4)) :
  Calls Try.prog 61 #[.agg #[.bool a0_0, .slice A0_1 l0_1.length c0_1, .bool a0_2, .slice A0_3 l0_3.length c0_3], .agg #[.bool a1_0, .slice A1_1 l1_1.length c1_1, .bool a1_2, .slice A1_3 l1_3.length c1_3]] w fun e w' => ∃ v1_ v3_ : Value, e = .returned (.agg #[.bool r1, v1_, .bool r3, v3_]) ∧ Kd.V (Kd.int .u32) 117 w' w.heap.size (fun k_ => (w.heap.size ≤ k_)) v1_ r2 ∧ Kd.V (Kd.int .u32) 117 w' w.heap.size (fun k_ => (w.heap.size ≤ k_)) v3_ r4 ∧ Below w.heap.size w w' := by
 have HR0_1 := Aside0.mk hr0_1
 have HC0_1 := Aside0.mk hc0_1
 clear hr0_1 hc0_1
 have HR0_3 := Aside0.mk hr0_3
 have HC0_3 := Aside0.mk hc0_3
 clear hr0_3 hc0_3
 have HR1_1 := Aside0.mk hr1_1
 have HC1_1 := Aside0.mk hc1_1
 clear hr1_1 hc1_1
 have HR1_3 := Aside0.mk hr1_3
 have HC1_3 := Aside0.mk hc1_3
 clear hr1_3 hc1_3
 have HB := Aside0.mk (Below.refl w.heap.size w)
 have H : ((frac_does.f (⟨#[97, 100, 100]⟩ : ByteArray) a0_0 l0_1 a0_2 l0_3 a1_0 l1_1 a1_2 l1_3).bind fun bt724 => (some (bt724.1, bt724.2.1, bt724.2.2.1, bt724.2.2.2))) = some (r1, r2, r3, r4) := h
 clear h
 replace H := Option.bind_eq_some_iff.mp H
 obtain ⟨⟨t724, t725, t728, t729⟩, A30, H⟩ := H
 replace H : (some (t724, t725, t728, t729)) = some (r1, r2, r3, r4) := H
 have A3 := Aside0.mk A30
 clear A30
 simp only [Option.some.injEq, Prod.mk.injEq] at H
 obtain ⟨rfl, rfl, rfl, rfl⟩ := H
 go_enter Try.func61, Try.ntmps61
 go_wp2_with (first | ((with_reducible refine gate_dst (N := 2) rfl ?_); refine box_event ?hg (N := 2) ?hd (cs := #[.bool a0_0, .slice A0_1 l0_1.length c0_1, .bool a0_2, .slice A0_3 l0_3.length c0_3]) (t := 66) ?hr ?_; (case hd => rfl); (case hg => rfl); (case hr => exact hr_); intro gb721 hg w4 hbox hb; have BK721 := Aside0.mk (hbox); replace HB := Aside0.mk (below_step m_1 hb); clear hb hbox hg) | ((with_reducible refine gate_dst (N := 3) rfl ?_); refine box_event ?hg (N := 3) ?hd (cs := #[.bool a1_0, .slice A1_1 l1_1.length c1_1, .bool a1_2, .slice A1_3 l1_3.length c1_3]) (t := 66) ?hr ?_; (case hd => rfl); (case hg => rfl); (case hr => exact hr_); intro gb722 hg w5 hbox hb; have BK722 := Aside0.mk (hbox); replace BK721 := bB_ BK721 hb; replace HB := Aside0.mk (below_step m_98 hb); clear hb hbox hg) | ((with_reducible refine gate_dst (N := 4) rfl ?_); refine box_event ?hg (N := 4) ?hd (cs := #[.bool false, .slice none 0 0, .bool false, .slice none 0 0]) (t := 66) ?hr ?_; (case hd => rfl); (case hg => rfl); (case hr => exact hr_); intro gb723 hg w6 hbox hb; have BK723 := Aside0.mk (hbox); have GE723 := gW_ (w := w) hg m_82; replace BK721 := bB_ BK721 hb; replace BK722 := bB_ BK722 hb; replace HB := Aside0.mk (below_step m_82 hb); clear hb hbox hg; obtain ⟨hcz9_0, hcz9_1, hcz9_2, hcz9_3, hfz9_0, hfz9_1, hfz9_2, hfz9_3⟩ := cf4_ BK721; obtain ⟨hcz11_0, hcz11_1, hcz11_2, hcz11_3, hfz11_0, hfz11_1, hfz11_2, hfz11_3⟩ := cf4_ BK722) | ((with_reducible refine gate_callee (f := 80) rfl ?_); refine goesL_ (some 7) rfl rfl Try.func80 m_13 rfl #[.string (⟨#[97, 100, 100]⟩ : ByteArray), .agg #[.bool a0_0, .slice A0_1 l0_1.length c0_1, .bool a0_2, .slice A0_3 l0_3.length c0_3], .agg #[.bool a1_0, .slice A1_1 l1_1.length c1_1, .bool a1_2, .slice A1_3 l1_3.length c1_3]] rfl m_2 ?_; (with_reducible refine (frac_does.calls (⟨#[97, 100, 100]⟩ : ByteArray) a0_0 _ _ l0_1 a0_2 _ _ l0_3 a1_0 _ _ l1_1 a1_2 _ _ l1_3 t724 t725 t728 t729 _ ?side1 ?side2 ?side3 ?side4 ?side5 ?side6 ?side7 ?side8 A3.out).mono ?_); (case side1 => exact cA_ (Kd.C_below HR0_1.out HB.out)); (case side2 => exact HC0_1.out); (case side3 => exact cA_ (Kd.C_below HR0_3.out HB.out)); (case side4 => exact HC0_3.out); (case side5 => exact cA_ (Kd.C_below HR1_1.out HB.out)); (case side6 => exact HC1_1.out); (case side7 => exact cA_ (Kd.C_below HR1_3.out HB.out)); (case side8 => exact HC1_3.out); rintro e w12 ⟨v726, v730, rfl, ho0, ho1, hb⟩; refine ⟨_, rfl, ?_⟩; have HO727 := Aside0.mk (Kd.V_lower (Kd.V_mono (ok' := fun k_ => (w.heap.size ≤ k_) ∧ k_ ≠ gb721 ∧ k_ ≠ gb722 ∧ k_ ≠ gb723) ho0 (fun k_ hk_ => ⟨(Nat.le_trans (below_size m_44) hk_), (Kd.freshB (bA_ BK721.out) k_ hk_), (Kd.freshB (bA_ BK722.out) k_ hk_), (Kd.freshB (bA_ BK723.out) k_ hk_)⟩)) (below_size m_44)); have HO731 := Aside0.mk (Kd.V_lower (Kd.V_mono (ok' := fun k_ => (w.heap.size ≤ k_) ∧ k_ ≠ gb721 ∧ k_ ≠ gb722 ∧ k_ ≠ gb723) ho1 (fun k_ hk_ => ⟨(Nat.le_trans (below_size m_44) hk_), (Kd.freshB (bA_ BK721.out) k_ hk_), (Kd.freshB (bA_ BK722.out) k_ hk_), (Kd.freshB (bA_ BK723.out) k_ hk_)⟩)) (below_size m_44)); replace BK723 := bB_ BK723 hb; replace HB := Aside0.mk (below_step m_44 hb); clear hb; (try clear ho0); (try clear ho1); obtain ⟨hcz13_0, hcz13_1, hcz13_2, hcz13_3, hfz13_0, hfz13_1, hfz13_2, hfz13_3⟩ := cf4_ BK723; obtain ⟨Ao14, co14, eo14⟩ := Kd.V_slice HO727.out; subst eo14; obtain ⟨Ao15, co15, eo15⟩ := Kd.V_slice HO731.out; subst eo15))
 refine bodyPost_ret (results_cell_row rfl _ _ gb723 66 #[.bool t724, .slice Ao14 t725.length co14, .bool t728, .slice Ao15 t729.length co15] (0, 0) _ rfl (by (with_reducible repeat (first | refine blk_drewN ?_ _ | refine blk_drew ?_ | refine blk_alloc ?_ _)); refine blk_put (cs := #[.bool t724, .slice Ao14 t725.length co14, .bool t728, .slice none 0 0]) ?_ 3 _ rfl; (with_reducible repeat (first | refine blk_drewN ?_ _ | refine blk_drew ?_ | refine blk_alloc ?_ _)); refine blk_put (cs := #[.bool t724, .slice Ao14 t725.length co14, .bool false, .slice none 0 0]) ?_ 2 _ rfl; (with_reducible repeat (first | refine blk_drewN ?_ _ | refine blk_drew ?_ | refine blk_alloc ?_ _)); refine blk_put (cs := #[.bool t724, .slice none 0 0, .bool false, .slice none 0 0]) ?_ 1 _ rfl; (with_reducible repeat (first | refine blk_drewN ?_ _ | refine blk_drew ?_ | refine blk_alloc ?_ _)); refine blk_put (cs := #[.bool false, .slice none 0 0, .bool false, .slice none 0 0]) ?_ 0 _ rfl; (with_reducible repeat (first | refine blk_drewN ?_ _ | refine blk_drew ?_ | refine blk_alloc ?_ _)); exact BK723.out) Try.underlying66 rfl m_13) rfl ?_
 exact ⟨_, _, m_5, (by (with_reducible repeat (first | apply Kd.V_alloc | apply Kd.V_drewN | apply Kd.V_drew)); exact Kd.V_mono (Kd.V_far (p := ⟨gb723, 3, none⟩) (Kd.V_far (p := ⟨gb723, 2, none⟩) (Kd.V_far (p := ⟨gb723, 1, none⟩) (Kd.V_far (p := ⟨gb723, 0, none⟩) (Kd.V_mono HO727.out (fun k_ hk => (⟨hk, hk.2.2.2⟩ : _ ∧ k_ ≠ gb723))) (fun _ hk => hk.2) (.bool t724)) (fun _ hk => hk.2) (.slice Ao14 t725.length co14)) (fun _ hk => hk.2) (.bool t728)) (fun _ hk => hk.2) (.slice Ao15 t729.length co15)) (fun _ hk => hk.1.1)), (by (with_reducible repeat (first | apply Kd.V_alloc | apply Kd.V_drewN | apply Kd.V_drew)); exact Kd.V_mono (Kd.V_far (p := ⟨gb723, 3, none⟩) (Kd.V_far (p := ⟨gb723, 2, none⟩) (Kd.V_far (p := ⟨gb723, 1, none⟩) (Kd.V_far (p := ⟨gb723, 0, none⟩) (Kd.V_mono HO731.out (fun k_ hk => (⟨hk, hk.2.2.2⟩ : _ ∧ k_ ≠ gb723))) (fun _ hk => hk.2) (.bool t724)) (fun _ hk => hk.2) (.slice Ao14 t725.length co14)) (fun _ hk => hk.2) (.bool t728)) (fun _ hk => hk.2) (.slice Ao15 t729.length co15)) (fun _ hk => hk.1.1)), m_44⟩
end Go.Proofs.Ytelklgdmhnkenaa.U
namespace Go.Proofs.Ytelklgdmhnkenaa.U
attribute [local go_sem] max2_int min2_int max_two min_two max_three min_three max_four min_four
def fracK_Sub.f (a0_0 : Bool) (l0_1 : List Int) (a0_2 : Bool) (l0_3 : List Int) (a1_0 : Bool) (l1_1 : List Int) (a1_2 : Bool) (l1_3 : List Int) : Option (Bool × List Int × Bool × List Int) := (frac_does.f (⟨#[115, 117, 98]⟩ : ByteArray) a0_0 l0_1 a0_2 l0_3 a1_0 l1_1 a1_2 l1_3).bind fun bt669 => (some (bt669.1, bt669.2.1, bt669.2.2.1, bt669.2.2.2))
set_option maxHeartbeats 8000000 in
set_option maxRecDepth 100000 in
theorem fracK_Sub.calls (a0_0 : Bool) (A0_1 : Option Addr) (c0_1 : Nat) (l0_1 : List Int) (a0_2 : Bool) (A0_3 : Option Addr) (c0_3 : Nat) (l0_3 : List Int) (a1_0 : Bool) (A1_1 : Option Addr) (c1_1 : Nat) (l1_1 : List Int) (a1_2 : Bool) (A1_3 : Option Addr) (c1_3 : Nat) (l1_3 : List Int) (r1 : Bool) (r2 : List Int) (r3 : Bool) (r4 : List Int) (w : World) (hr0_1 : Kd.C (Kd.int .u32) w A0_1 l0_1.length l0_1) (hc0_1 : l0_1.length ≤ c0_1) (hr0_3 : Kd.C (Kd.int .u32) w A0_3 l0_3.length l0_3) (hc0_3 : l0_3.length ≤ c0_3) (hr1_1 : Kd.C (Kd.int .u32) w A1_1 l1_1.length l1_1) (hc1_1 : l1_1.length ≤ c1_1) (hr1_3 : Kd.C (Kd.int .u32) w A1_3 l1_3.length l1_3) (hc1_3 : l1_3.length ≤ c1_3) (h : fracK_Sub.f a0_0 l0_1 a0_2 l0_3 a1_0 l1_1 a1_2 l1_3 = some (r1, r2, r3, r4)) :
  Calls Try.prog 79 #[.agg #[.bool a0_0, .slice A0_1 l0_1.length c0_1, .bool a0_2, .slice A0_3 l0_3.length c0_3], .agg #[.bool a1_0, .slice A1_1 l1_1.length c1_1, .bool a1_2, .slice A1_3 l1_3.length c1_3]] w fun e w' => ∃ v1_ v3_ : Value, e = .returned (.agg #[.bool r1, v1_, .bool r3, v3_]) ∧ Kd.V (Kd.int .u32) 117 w' w.heap.size (fun k_ => (w.heap.size ≤ k_)) v1_ r2 ∧ Kd.V (Kd.int .u32) 117 w' w.heap.size (fun k_ => (w.heap.size ≤ k_)) v3_ r4 ∧ Below w.heap.size w w' := by
 have HR0_1 := Aside0.mk hr0_1
 have HC0_1 := Aside0.mk hc0_1
 clear hr0_1 hc0_1
 have HR0_3 := Aside0.mk hr0_3
 have HC0_3 := Aside0.mk hc0_3
 clear hr0_3 hc0_3
 have HR1_1 := Aside0.mk hr1_1
 have HC1_1 := Aside0.mk hc1_1
 clear hr1_1 hc1_1
 have HR1_3 := Aside0.mk hr1_3
 have HC1_3 := Aside0.mk hc1_3
 clear hr1_3 hc1_3
 have HB := Aside0.mk (Below.refl w.heap.size w)
 have H : ((frac_does.f (⟨#[115, 117, 98]⟩ : ByteArray) a0_0 l0_1 a0_2 l0_3 a1_0 l1_1 a1_2 l1_3).bind fun bt669 => (some (bt669.1, bt669.2.1, bt669.2.2.1, bt669.2.2.2))) = some (r1, r2, r3, r4) := h
 clear h
 replace H := Option.bind_eq_some_iff.mp H
 obtain ⟨⟨t669, t670, t673, t674⟩, A30, H⟩ := H
 replace H : (some (t669, t670, t673, t674)) = some (r1, r2, r3, r4) := H
 have A3 := Aside0.mk A30
 clear A30
 simp only [Option.some.injEq, Prod.mk.injEq] at H
 obtain ⟨rfl, rfl, rfl, rfl⟩ := H
 go_enter Try.func79, Try.ntmps79
 go_wp2_with (first | ((with_reducible refine gate_dst (N := 2) rfl ?_); refine box_event ?hg (N := 2) ?hd (cs := #[.bool a0_0, .slice A0_1 l0_1.length c0_1, .bool a0_2, .slice A0_3 l0_3.length c0_3]) (t := 66) ?hr ?_; (case hd => rfl); (case hg => rfl); (case hr => exact hr_); intro gb666 hg w4 hbox hb; have BK666 := Aside0.mk (hbox); replace HB := Aside0.mk (below_step m_1 hb); clear hb hbox hg) | ((with_reducible refine gate_dst (N := 3) rfl ?_); refine box_event ?hg (N := 3) ?hd (cs := #[.bool a1_0, .slice A1_1 l1_1.length c1_1, .bool a1_2, .slice A1_3 l1_3.length c1_3]) (t := 66) ?hr ?_; (case hd => rfl); (case hg => rfl); (case hr => exact hr_); intro gb667 hg w5 hbox hb; have BK667 := Aside0.mk (hbox); replace BK666 := bB_ BK666 hb; replace HB := Aside0.mk (below_step m_99 hb); clear hb hbox hg) | ((with_reducible refine gate_dst (N := 4) rfl ?_); refine box_event ?hg (N := 4) ?hd (cs := #[.bool false, .slice none 0 0, .bool false, .slice none 0 0]) (t := 66) ?hr ?_; (case hd => rfl); (case hg => rfl); (case hr => exact hr_); intro gb668 hg w6 hbox hb; have BK668 := Aside0.mk (hbox); have GE668 := gW_ (w := w) hg m_83; replace BK666 := bB_ BK666 hb; replace BK667 := bB_ BK667 hb; replace HB := Aside0.mk (below_step m_83 hb); clear hb hbox hg; obtain ⟨hcz9_0, hcz9_1, hcz9_2, hcz9_3, hfz9_0, hfz9_1, hfz9_2, hfz9_3⟩ := cf4_ BK666; obtain ⟨hcz11_0, hcz11_1, hcz11_2, hcz11_3, hfz11_0, hfz11_1, hfz11_2, hfz11_3⟩ := cf4_ BK667) | ((with_reducible refine gate_callee (f := 80) rfl ?_); refine goesL_ (some 7) rfl rfl Try.func80 m_13 rfl #[.string (⟨#[115, 117, 98]⟩ : ByteArray), .agg #[.bool a0_0, .slice A0_1 l0_1.length c0_1, .bool a0_2, .slice A0_3 l0_3.length c0_3], .agg #[.bool a1_0, .slice A1_1 l1_1.length c1_1, .bool a1_2, .slice A1_3 l1_3.length c1_3]] rfl m_2 ?_; (with_reducible refine (frac_does.calls (⟨#[115, 117, 98]⟩ : ByteArray) a0_0 _ _ l0_1 a0_2 _ _ l0_3 a1_0 _ _ l1_1 a1_2 _ _ l1_3 t669 t670 t673 t674 _ ?side1 ?side2 ?side3 ?side4 ?side5 ?side6 ?side7 ?side8 A3.out).mono ?_); (case side1 => exact cA_ (Kd.C_below HR0_1.out HB.out)); (case side2 => exact HC0_1.out); (case side3 => exact cA_ (Kd.C_below HR0_3.out HB.out)); (case side4 => exact HC0_3.out); (case side5 => exact cA_ (Kd.C_below HR1_1.out HB.out)); (case side6 => exact HC1_1.out); (case side7 => exact cA_ (Kd.C_below HR1_3.out HB.out)); (case side8 => exact HC1_3.out); rintro e w12 ⟨v671, v675, rfl, ho0, ho1, hb⟩; refine ⟨_, rfl, ?_⟩; have HO672 := Aside0.mk (Kd.V_lower (Kd.V_mono (ok' := fun k_ => (w.heap.size ≤ k_) ∧ k_ ≠ gb666 ∧ k_ ≠ gb667 ∧ k_ ≠ gb668) ho0 (fun k_ hk_ => ⟨(Nat.le_trans (below_size m_45) hk_), (Kd.freshB (bA_ BK666.out) k_ hk_), (Kd.freshB (bA_ BK667.out) k_ hk_), (Kd.freshB (bA_ BK668.out) k_ hk_)⟩)) (below_size m_45)); have HO676 := Aside0.mk (Kd.V_lower (Kd.V_mono (ok' := fun k_ => (w.heap.size ≤ k_) ∧ k_ ≠ gb666 ∧ k_ ≠ gb667 ∧ k_ ≠ gb668) ho1 (fun k_ hk_ => ⟨(Nat.le_trans (below_size m_45) hk_), (Kd.freshB (bA_ BK666.out) k_ hk_), (Kd.freshB (bA_ BK667.out) k_ hk_), (Kd.freshB (bA_ BK668.out) k_ hk_)⟩)) (below_size m_45)); replace BK668 := bB_ BK668 hb; replace HB := Aside0.mk (below_step m_45 hb); clear hb; (try clear ho0); (try clear ho1); obtain ⟨hcz13_0, hcz13_1, hcz13_2, hcz13_3, hfz13_0, hfz13_1, hfz13_2, hfz13_3⟩ := cf4_ BK668; obtain ⟨Ao14, co14, eo14⟩ := Kd.V_slice HO672.out; subst eo14; obtain ⟨Ao15, co15, eo15⟩ := Kd.V_slice HO676.out; subst eo15))
 refine bodyPost_ret (results_cell_row rfl _ _ gb668 66 #[.bool t669, .slice Ao14 t670.length co14, .bool t673, .slice Ao15 t674.length co15] (0, 0) _ rfl (by (with_reducible repeat (first | refine blk_drewN ?_ _ | refine blk_drew ?_ | refine blk_alloc ?_ _)); refine blk_put (cs := #[.bool t669, .slice Ao14 t670.length co14, .bool t673, .slice none 0 0]) ?_ 3 _ rfl; (with_reducible repeat (first | refine blk_drewN ?_ _ | refine blk_drew ?_ | refine blk_alloc ?_ _)); refine blk_put (cs := #[.bool t669, .slice Ao14 t670.length co14, .bool false, .slice none 0 0]) ?_ 2 _ rfl; (with_reducible repeat (first | refine blk_drewN ?_ _ | refine blk_drew ?_ | refine blk_alloc ?_ _)); refine blk_put (cs := #[.bool t669, .slice none 0 0, .bool false, .slice none 0 0]) ?_ 1 _ rfl; (with_reducible repeat (first | refine blk_drewN ?_ _ | refine blk_drew ?_ | refine blk_alloc ?_ _)); refine blk_put (cs := #[.bool false, .slice none 0 0, .bool false, .slice none 0 0]) ?_ 0 _ rfl; (with_reducible repeat (first | refine blk_drewN ?_ _ | refine blk_drew ?_ | refine blk_alloc ?_ _)); exact BK668.out) Try.underlying66 rfl m_13) rfl ?_
 exact ⟨_, _, m_5, (by (with_reducible repeat (first | apply Kd.V_alloc | apply Kd.V_drewN | apply Kd.V_drew)); exact Kd.V_mono (Kd.V_far (p := ⟨gb668, 3, none⟩) (Kd.V_far (p := ⟨gb668, 2, none⟩) (Kd.V_far (p := ⟨gb668, 1, none⟩) (Kd.V_far (p := ⟨gb668, 0, none⟩) (Kd.V_mono HO672.out (fun k_ hk => (⟨hk, hk.2.2.2⟩ : _ ∧ k_ ≠ gb668))) (fun _ hk => hk.2) (.bool t669)) (fun _ hk => hk.2) (.slice Ao14 t670.length co14)) (fun _ hk => hk.2) (.bool t673)) (fun _ hk => hk.2) (.slice Ao15 t674.length co15)) (fun _ hk => hk.1.1)), (by (with_reducible repeat (first | apply Kd.V_alloc | apply Kd.V_drewN | apply Kd.V_drew)); exact Kd.V_mono (Kd.V_far (p := ⟨gb668, 3, none⟩) (Kd.V_far (p := ⟨gb668, 2, none⟩) (Kd.V_far (p := ⟨gb668, 1, none⟩) (Kd.V_far (p := ⟨gb668, 0, none⟩) (Kd.V_mono HO676.out (fun k_ hk => (⟨hk, hk.2.2.2⟩ : _ ∧ k_ ≠ gb668))) (fun _ hk => hk.2) (.bool t669)) (fun _ hk => hk.2) (.slice Ao14 t670.length co14)) (fun _ hk => hk.2) (.bool t673)) (fun _ hk => hk.2) (.slice Ao15 t674.length co15)) (fun _ hk => hk.1.1)), m_45⟩
end Go.Proofs.Ytelklgdmhnkenaa.U
namespace Go.Proofs.Ytelklgdmhnkenaa.U
attribute [local go_sem] max2_int min2_int max_two min_two max_three min_three max_four min_four
def fracK_Mul.f (a0_0 : Bool) (l0_1 : List Int) (a0_2 : Bool) (l0_3 : List Int) (a1_0 : Bool) (l1_1 : List Int) (a1_2 : Bool) (l1_3 : List Int) : Option (Bool × List Int × Bool × List Int) := (frac_does.f (⟨#[109, 117, 108]⟩ : ByteArray) a0_0 l0_1 a0_2 l0_3 a1_0 l1_1 a1_2 l1_3).bind fun bt735 => (some (bt735.1, bt735.2.1, bt735.2.2.1, bt735.2.2.2))
set_option maxHeartbeats 8000000 in
set_option maxRecDepth 100000 in
theorem fracK_Mul.calls (a0_0 : Bool) (A0_1 : Option Addr) (c0_1 : Nat) (l0_1 : List Int) (a0_2 : Bool) (A0_3 : Option Addr) (c0_3 : Nat) (l0_3 : List Int) (a1_0 : Bool) (A1_1 : Option Addr) (c1_1 : Nat) (l1_1 : List Int) (a1_2 : Bool) (A1_3 : Option Addr) (c1_3 : Nat) (l1_3 : List Int) (r1 : Bool) (r2 : List Int) (r3 : Bool) (r4 : List Int) (w : World) (hr0_1 : Kd.C (Kd.int .u32) w A0_1 l0_1.length l0_1) (hc0_1 : l0_1.length ≤ c0_1) (hr0_3 : Kd.C (Kd.int .u32) w A0_3 l0_3.length l0_3) (hc0_3 : l0_3.length ≤ c0_3) (hr1_1 : Kd.C (Kd.int .u32) w A1_1 l1_1.length l1_1) (hc1_1 : l1_1.length ≤ c1_1) (hr1_3 : Kd.C (Kd.int .u32) w A1_3 l1_3.length l1_3) (hc1_3 : l1_3.length ≤ c1_3) (h : fracK_Mul.f a0_0 l0_1 a0_2 l0_3 a1_0 l1_1 a1_2 l1_3 = some (r1, r2, r3, r4)) :
  Calls Try.prog 62 #[.agg #[.bool a0_0, .slice A0_1 l0_1.length c0_1, .bool a0_2, .slice A0_3 l0_3.length c0_3], .agg #[.bool a1_0, .slice A1_1 l1_1.length c1_1, .bool a1_2, .slice A1_3 l1_3.length c1_3]] w fun e w' => ∃ v1_ v3_ : Value, e = .returned (.agg #[.bool r1, v1_, .bool r3, v3_]) ∧ Kd.V (Kd.int .u32) 117 w' w.heap.size (fun k_ => (w.heap.size ≤ k_)) v1_ r2 ∧ Kd.V (Kd.int .u32) 117 w' w.heap.size (fun k_ => (w.heap.size ≤ k_)) v3_ r4 ∧ Below w.heap.size w w' := by
 have HR0_1 := Aside0.mk hr0_1
 have HC0_1 := Aside0.mk hc0_1
 clear hr0_1 hc0_1
 have HR0_3 := Aside0.mk hr0_3
 have HC0_3 := Aside0.mk hc0_3
 clear hr0_3 hc0_3
 have HR1_1 := Aside0.mk hr1_1
 have HC1_1 := Aside0.mk hc1_1
 clear hr1_1 hc1_1
 have HR1_3 := Aside0.mk hr1_3
 have HC1_3 := Aside0.mk hc1_3
 clear hr1_3 hc1_3
 have HB := Aside0.mk (Below.refl w.heap.size w)
 have H : ((frac_does.f (⟨#[109, 117, 108]⟩ : ByteArray) a0_0 l0_1 a0_2 l0_3 a1_0 l1_1 a1_2 l1_3).bind fun bt735 => (some (bt735.1, bt735.2.1, bt735.2.2.1, bt735.2.2.2))) = some (r1, r2, r3, r4) := h
 clear h
 replace H := Option.bind_eq_some_iff.mp H
 obtain ⟨⟨t735, t736, t739, t740⟩, A30, H⟩ := H
 replace H : (some (t735, t736, t739, t740)) = some (r1, r2, r3, r4) := H
 have A3 := Aside0.mk A30
 clear A30
 simp only [Option.some.injEq, Prod.mk.injEq] at H
 obtain ⟨rfl, rfl, rfl, rfl⟩ := H
 go_enter Try.func62, Try.ntmps62
 go_wp2_with (first | ((with_reducible refine gate_dst (N := 2) rfl ?_); refine box_event ?hg (N := 2) ?hd (cs := #[.bool a0_0, .slice A0_1 l0_1.length c0_1, .bool a0_2, .slice A0_3 l0_3.length c0_3]) (t := 66) ?hr ?_; (case hd => rfl); (case hg => rfl); (case hr => exact hr_); intro gb732 hg w4 hbox hb; have BK732 := Aside0.mk (hbox); replace HB := Aside0.mk (below_step m_1 hb); clear hb hbox hg) | ((with_reducible refine gate_dst (N := 3) rfl ?_); refine box_event ?hg (N := 3) ?hd (cs := #[.bool a1_0, .slice A1_1 l1_1.length c1_1, .bool a1_2, .slice A1_3 l1_3.length c1_3]) (t := 66) ?hr ?_; (case hd => rfl); (case hg => rfl); (case hr => exact hr_); intro gb733 hg w5 hbox hb; have BK733 := Aside0.mk (hbox); replace BK732 := bB_ BK732 hb; replace HB := Aside0.mk (below_step m_97 hb); clear hb hbox hg) | ((with_reducible refine gate_dst (N := 4) rfl ?_); refine box_event ?hg (N := 4) ?hd (cs := #[.bool false, .slice none 0 0, .bool false, .slice none 0 0]) (t := 66) ?hr ?_; (case hd => rfl); (case hg => rfl); (case hr => exact hr_); intro gb734 hg w6 hbox hb; have BK734 := Aside0.mk (hbox); have GE734 := gW_ (w := w) hg m_81; replace BK732 := bB_ BK732 hb; replace BK733 := bB_ BK733 hb; replace HB := Aside0.mk (below_step m_81 hb); clear hb hbox hg; obtain ⟨hcz9_0, hcz9_1, hcz9_2, hcz9_3, hfz9_0, hfz9_1, hfz9_2, hfz9_3⟩ := cf4_ BK732; obtain ⟨hcz11_0, hcz11_1, hcz11_2, hcz11_3, hfz11_0, hfz11_1, hfz11_2, hfz11_3⟩ := cf4_ BK733) | ((with_reducible refine gate_callee (f := 80) rfl ?_); refine goesL_ (some 7) rfl rfl Try.func80 m_13 rfl #[.string (⟨#[109, 117, 108]⟩ : ByteArray), .agg #[.bool a0_0, .slice A0_1 l0_1.length c0_1, .bool a0_2, .slice A0_3 l0_3.length c0_3], .agg #[.bool a1_0, .slice A1_1 l1_1.length c1_1, .bool a1_2, .slice A1_3 l1_3.length c1_3]] rfl m_2 ?_; (with_reducible refine (frac_does.calls (⟨#[109, 117, 108]⟩ : ByteArray) a0_0 _ _ l0_1 a0_2 _ _ l0_3 a1_0 _ _ l1_1 a1_2 _ _ l1_3 t735 t736 t739 t740 _ ?side1 ?side2 ?side3 ?side4 ?side5 ?side6 ?side7 ?side8 A3.out).mono ?_); (case side1 => exact cA_ (Kd.C_below HR0_1.out HB.out)); (case side2 => exact HC0_1.out); (case side3 => exact cA_ (Kd.C_below HR0_3.out HB.out)); (case side4 => exact HC0_3.out); (case side5 => exact cA_ (Kd.C_below HR1_1.out HB.out)); (case side6 => exact HC1_1.out); (case side7 => exact cA_ (Kd.C_below HR1_3.out HB.out)); (case side8 => exact HC1_3.out); rintro e w12 ⟨v737, v741, rfl, ho0, ho1, hb⟩; refine ⟨_, rfl, ?_⟩; have HO738 := Aside0.mk (Kd.V_lower (Kd.V_mono (ok' := fun k_ => (w.heap.size ≤ k_) ∧ k_ ≠ gb732 ∧ k_ ≠ gb733 ∧ k_ ≠ gb734) ho0 (fun k_ hk_ => ⟨(Nat.le_trans (below_size m_43) hk_), (Kd.freshB (bA_ BK732.out) k_ hk_), (Kd.freshB (bA_ BK733.out) k_ hk_), (Kd.freshB (bA_ BK734.out) k_ hk_)⟩)) (below_size m_43)); have HO742 := Aside0.mk (Kd.V_lower (Kd.V_mono (ok' := fun k_ => (w.heap.size ≤ k_) ∧ k_ ≠ gb732 ∧ k_ ≠ gb733 ∧ k_ ≠ gb734) ho1 (fun k_ hk_ => ⟨(Nat.le_trans (below_size m_43) hk_), (Kd.freshB (bA_ BK732.out) k_ hk_), (Kd.freshB (bA_ BK733.out) k_ hk_), (Kd.freshB (bA_ BK734.out) k_ hk_)⟩)) (below_size m_43)); replace BK734 := bB_ BK734 hb; replace HB := Aside0.mk (below_step m_43 hb); clear hb; (try clear ho0); (try clear ho1); obtain ⟨hcz13_0, hcz13_1, hcz13_2, hcz13_3, hfz13_0, hfz13_1, hfz13_2, hfz13_3⟩ := cf4_ BK734; obtain ⟨Ao14, co14, eo14⟩ := Kd.V_slice HO738.out; subst eo14; obtain ⟨Ao15, co15, eo15⟩ := Kd.V_slice HO742.out; subst eo15))
 refine bodyPost_ret (results_cell_row rfl _ _ gb734 66 #[.bool t735, .slice Ao14 t736.length co14, .bool t739, .slice Ao15 t740.length co15] (0, 0) _ rfl (by (with_reducible repeat (first | refine blk_drewN ?_ _ | refine blk_drew ?_ | refine blk_alloc ?_ _)); refine blk_put (cs := #[.bool t735, .slice Ao14 t736.length co14, .bool t739, .slice none 0 0]) ?_ 3 _ rfl; (with_reducible repeat (first | refine blk_drewN ?_ _ | refine blk_drew ?_ | refine blk_alloc ?_ _)); refine blk_put (cs := #[.bool t735, .slice Ao14 t736.length co14, .bool false, .slice none 0 0]) ?_ 2 _ rfl; (with_reducible repeat (first | refine blk_drewN ?_ _ | refine blk_drew ?_ | refine blk_alloc ?_ _)); refine blk_put (cs := #[.bool t735, .slice none 0 0, .bool false, .slice none 0 0]) ?_ 1 _ rfl; (with_reducible repeat (first | refine blk_drewN ?_ _ | refine blk_drew ?_ | refine blk_alloc ?_ _)); refine blk_put (cs := #[.bool false, .slice none 0 0, .bool false, .slice none 0 0]) ?_ 0 _ rfl; (with_reducible repeat (first | refine blk_drewN ?_ _ | refine blk_drew ?_ | refine blk_alloc ?_ _)); exact BK734.out) Try.underlying66 rfl m_13) rfl ?_
 exact ⟨_, _, m_5, (by (with_reducible repeat (first | apply Kd.V_alloc | apply Kd.V_drewN | apply Kd.V_drew)); exact Kd.V_mono (Kd.V_far (p := ⟨gb734, 3, none⟩) (Kd.V_far (p := ⟨gb734, 2, none⟩) (Kd.V_far (p := ⟨gb734, 1, none⟩) (Kd.V_far (p := ⟨gb734, 0, none⟩) (Kd.V_mono HO738.out (fun k_ hk => (⟨hk, hk.2.2.2⟩ : _ ∧ k_ ≠ gb734))) (fun _ hk => hk.2) (.bool t735)) (fun _ hk => hk.2) (.slice Ao14 t736.length co14)) (fun _ hk => hk.2) (.bool t739)) (fun _ hk => hk.2) (.slice Ao15 t740.length co15)) (fun _ hk => hk.1.1)), (by (with_reducible repeat (first | apply Kd.V_alloc | apply Kd.V_drewN | apply Kd.V_drew)); exact Kd.V_mono (Kd.V_far (p := ⟨gb734, 3, none⟩) (Kd.V_far (p := ⟨gb734, 2, none⟩) (Kd.V_far (p := ⟨gb734, 1, none⟩) (Kd.V_far (p := ⟨gb734, 0, none⟩) (Kd.V_mono HO742.out (fun k_ hk => (⟨hk, hk.2.2.2⟩ : _ ∧ k_ ≠ gb734))) (fun _ hk => hk.2) (.bool t735)) (fun _ hk => hk.2) (.slice Ao14 t736.length co14)) (fun _ hk => hk.2) (.bool t739)) (fun _ hk => hk.2) (.slice Ao15 t740.length co15)) (fun _ hk => hk.1.1)), m_43⟩
theorem canonK_ev {x : Int} (h : sm x) : Ev (fun k => fracK_Canonical.f k (zS x) (zW x) false []) (zS x, zW x, false, []) := by
 unfold fracK_Canonical.f
 exact (of_ev x).bind ((least_ev (sm_a h)).bind (Ev.const rfl))
theorem minK_ev {x y : Int} (h : sm x) (h' : sm y) : Ev (fun k => fracK_Min.f k (zS x) (zW x) false [] (zS y) (zW y) false []) (if x ≤ y then (zS x, zW x, false, []) else (zS y, zW y, false, [])) := by
 unfold fracK_Min.f
 refine (cmpK_ev h h').bind ?_
 by_cases hxy : x ≤ y
 ·rw [if_pos hxy]
  have e : ((if x = y then (0 : Int) else if x < y then -1 else 1) ≤ 0) := by
   split
   ·omega
   ·split <;> omega
  simp only [if_pos e]
  exact (canonK_ev h).bind (Ev.const rfl)
 ·rw [if_neg hxy]
  have e : ¬ ((if x = y then (0 : Int) else if x < y then -1 else 1) ≤ 0) := by
   rw [if_neg (by omega), if_neg (by omega)]
   omega
  simp only [if_neg e]
  exact (canonK_ev h').bind (Ev.const rfl)
theorem frac_FromInt64.calls (a0 : Int) (r1 : Bool) (r2 : List Int) (r3 : Bool) (r4 : List Int) (w : World) (h : frac_FromInt64.f a0 = some (r1, r2, r3, r4)) :
  Calls Try.prog 39 #[.int .i64 a0] w fun e w' => ∃ v1_ v3_ : Value, e = .returned (.agg #[.bool r1, v1_, .bool r3, v3_]) ∧ Kd.V (Kd.int .u32) 117 w' w.heap.size (fun k_ => (w.heap.size ≤ k_)) v1_ r2 ∧ Kd.V (Kd.int .u32) 117 w' w.heap.size (fun k_ => (w.heap.size ≤ k_)) v3_ r4 ∧ Below w.heap.size w w' := by
 unfold frac_FromInt64.f at h
 by_cases hp : -4611686018427387904 < a0 ∧ a0 < 4611686018427387904
 ·rw [if_pos hp] at h
  simp only [Option.some.injEq, Prod.mk.injEq] at h
  obtain ⟨rfl, rfl, rfl, rfl⟩ := h
  obtain ⟨k, hk⟩ := fromK_ev (show sm a0 from hp)
  refine (fracK_FromInt64.calls k a0 _ _ _ _ w (hk k (Nat.le_refl _))).mono ?_
  rintro e w' ⟨v1, v3, rfl, h1, h3, hb⟩
  exact ⟨v1, v3, rfl, Kd.V_mono h1 (fun _ h => h.1), Kd.R_V h3, hb⟩
 ·rw [if_neg hp] at h
  cases h
theorem frac_Sign.calls (a0_0 : Bool) (A0_1 : Option Addr) (c0_1 : Nat) (l0_1 : List Int) (a0_2 : Bool) (A0_3 : Option Addr) (c0_3 : Nat) (l0_3 : List Int) (r : Int) (w : World) (hr0_1 : Kd.C (Kd.int .u32) w A0_1 l0_1.length l0_1) (hc0_1 : l0_1.length ≤ c0_1) (hr0_3 : Kd.C (Kd.int .u32) w A0_3 l0_3.length l0_3) (hc0_3 : l0_3.length ≤ c0_3) (h : frac_Sign.f a0_0 l0_1 a0_2 l0_3 = some r) :
  Calls Try.prog 77 #[.agg #[.bool a0_0, .slice A0_1 l0_1.length c0_1, .bool a0_2, .slice A0_3 l0_3.length c0_3]] w fun e w' => e = .returned (.int .i64 r) ∧ Below w.heap.size w w' := by
 unfold frac_Sign.f at h
 by_cases hp : okQ a0_0 l0_1 a0_2 l0_3
 ·rw [if_pos hp] at h
  obtain ⟨x, hx, ex, rfl, rfl, rfl, rfl⟩ := ok_open hp
  rw [ex] at h
  obtain rfl := Option.some.inj h
  obtain ⟨k, hk⟩ := signK_ev hx
  exact fracK_Sign.calls k _ _ _ _ _ _ _ _ _ w hr0_1 hc0_1 hr0_3 hc0_3 (hk k (Nat.le_refl _))
 ·rw [if_neg hp] at h
  cases h
theorem frac_Cmp.calls (a0_0 : Bool) (A0_1 : Option Addr) (c0_1 : Nat) (l0_1 : List Int) (a0_2 : Bool) (A0_3 : Option Addr) (c0_3 : Nat) (l0_3 : List Int) (a1_0 : Bool) (A1_1 : Option Addr) (c1_1 : Nat) (l1_1 : List Int) (a1_2 : Bool) (A1_3 : Option Addr) (c1_3 : Nat) (l1_3 : List Int) (r : Int) (w : World) (hr0_1 : Kd.C (Kd.int .u32) w A0_1 l0_1.length l0_1) (hc0_1 : l0_1.length ≤ c0_1) (hr0_3 : Kd.C (Kd.int .u32) w A0_3 l0_3.length l0_3) (hc0_3 : l0_3.length ≤ c0_3) (hr1_1 : Kd.C (Kd.int .u32) w A1_1 l1_1.length l1_1) (hc1_1 : l1_1.length ≤ c1_1) (hr1_3 : Kd.C (Kd.int .u32) w A1_3 l1_3.length l1_3) (hc1_3 : l1_3.length ≤ c1_3) (h : frac_Cmp.f a0_0 l0_1 a0_2 l0_3 a1_0 l1_1 a1_2 l1_3 = some r) :
  Calls Try.prog 64 #[.agg #[.bool a0_0, .slice A0_1 l0_1.length c0_1, .bool a0_2, .slice A0_3 l0_3.length c0_3], .agg #[.bool a1_0, .slice A1_1 l1_1.length c1_1, .bool a1_2, .slice A1_3 l1_3.length c1_3]] w fun e w' => e = .returned (.int .i64 r) ∧ Below w.heap.size w w' := by
 unfold frac_Cmp.f at h
 by_cases hp : okQ a0_0 l0_1 a0_2 l0_3 ∧ okQ a1_0 l1_1 a1_2 l1_3
 ·rw [if_pos hp] at h
  obtain ⟨x, hx, ex, rfl, rfl, rfl, rfl⟩ := ok_open hp.1
  obtain ⟨y, hy, ey, rfl, rfl, rfl, rfl⟩ := ok_open hp.2
  rw [ex, ey] at h
  obtain rfl := Option.some.inj h
  obtain ⟨k, hk⟩ := cmpK_ev hx hy
  exact fracK_Cmp.calls k _ _ _ _ _ _ _ _ _ _ _ _ _ _ _ _ _ w hr0_1 hc0_1 hr0_3 hc0_3 hr1_1 hc1_1 hr1_3 hc1_3 (hk k (Nat.le_refl _))
 ·rw [if_neg hp] at h
  cases h
theorem frac_Min.calls (a0_0 : Bool) (A0_1 : Option Addr) (c0_1 : Nat) (l0_1 : List Int) (a0_2 : Bool) (A0_3 : Option Addr) (c0_3 : Nat) (l0_3 : List Int) (a1_0 : Bool) (A1_1 : Option Addr) (c1_1 : Nat) (l1_1 : List Int) (a1_2 : Bool) (A1_3 : Option Addr) (c1_3 : Nat) (l1_3 : List Int) (r1 : Bool) (r2 : List Int) (r3 : Bool) (r4 : List Int) (w : World) (hr0_1 : Kd.C (Kd.int .u32) w A0_1 l0_1.length l0_1) (hc0_1 : l0_1.length ≤ c0_1) (hr0_3 : Kd.C (Kd.int .u32) w A0_3 l0_3.length l0_3) (hc0_3 : l0_3.length ≤ c0_3) (hr1_1 : Kd.C (Kd.int .u32) w A1_1 l1_1.length l1_1) (hc1_1 : l1_1.length ≤ c1_1) (hr1_3 : Kd.C (Kd.int .u32) w A1_3 l1_3.length l1_3) (hc1_3 : l1_3.length ≤ c1_3) (h : frac_Min.f a0_0 l0_1 a0_2 l0_3 a1_0 l1_1 a1_2 l1_3 = some (r1, r2, r3, r4)) :
  Calls Try.prog 78 #[.agg #[.bool a0_0, .slice A0_1 l0_1.length c0_1, .bool a0_2, .slice A0_3 l0_3.length c0_3], .agg #[.bool a1_0, .slice A1_1 l1_1.length c1_1, .bool a1_2, .slice A1_3 l1_3.length c1_3]] w fun e w' => ∃ v1_ v3_ : Value, e = .returned (.agg #[.bool r1, v1_, .bool r3, v3_]) ∧ Kd.V (Kd.int .u32) 117 w' w.heap.size (fun k_ => (w.heap.size ≤ k_)) v1_ r2 ∧ Kd.V (Kd.int .u32) 117 w' w.heap.size (fun k_ => (w.heap.size ≤ k_)) v3_ r4 ∧ Below w.heap.size w w' := by
 unfold frac_Min.f at h
 by_cases hp : okQ a0_0 l0_1 a0_2 l0_3 ∧ okQ a1_0 l1_1 a1_2 l1_3
 ·rw [if_pos hp] at h
  obtain ⟨x, hx, ex, rfl, rfl, rfl, rfl⟩ := ok_open hp.1
  obtain ⟨y, hy, ey, rfl, rfl, rfl, rfl⟩ := ok_open hp.2
  rw [ex, ey] at h
  obtain ⟨k, hk⟩ := minK_ev hx hy
  exact fracK_Min.calls k _ _ _ _ _ _ _ _ _ _ _ _ _ _ _ _ _ _ _ _ r1 r2 r3 r4 w (V_of_C hr0_1 hc0_1) (V_of_C hr0_3 hc0_3) (V_of_C hr1_1 hc1_1) (V_of_C hr1_3 hc1_3) ((hk k (Nat.le_refl _)).trans h)
 ·rw [if_neg hp] at h
  cases h
theorem frac_Add.calls (a0_0 : Bool) (A0_1 : Option Addr) (c0_1 : Nat) (l0_1 : List Int) (a0_2 : Bool) (A0_3 : Option Addr) (c0_3 : Nat) (l0_3 : List Int) (a1_0 : Bool) (A1_1 : Option Addr) (c1_1 : Nat) (l1_1 : List Int) (a1_2 : Bool) (A1_3 : Option Addr) (c1_3 : Nat) (l1_3 : List Int) (r1 : Bool) (r2 : List Int) (r3 : Bool) (r4 : List Int) (w : World) (hr0_1 : Kd.C (Kd.int .u32) w A0_1 l0_1.length l0_1) (hc0_1 : l0_1.length ≤ c0_1) (hr0_3 : Kd.C (Kd.int .u32) w A0_3 l0_3.length l0_3) (hc0_3 : l0_3.length ≤ c0_3) (hr1_1 : Kd.C (Kd.int .u32) w A1_1 l1_1.length l1_1) (hc1_1 : l1_1.length ≤ c1_1) (hr1_3 : Kd.C (Kd.int .u32) w A1_3 l1_3.length l1_3) (hc1_3 : l1_3.length ≤ c1_3) (h : frac_Add.f a0_0 l0_1 a0_2 l0_3 a1_0 l1_1 a1_2 l1_3 = some (r1, r2, r3, r4)) :
  Calls Try.prog 61 #[.agg #[.bool a0_0, .slice A0_1 l0_1.length c0_1, .bool a0_2, .slice A0_3 l0_3.length c0_3], .agg #[.bool a1_0, .slice A1_1 l1_1.length c1_1, .bool a1_2, .slice A1_3 l1_3.length c1_3]] w fun e w' => ∃ v1_ v3_ : Value, e = .returned (.agg #[.bool r1, v1_, .bool r3, v3_]) ∧ Kd.V (Kd.int .u32) 117 w' w.heap.size (fun k_ => (w.heap.size ≤ k_)) v1_ r2 ∧ Kd.V (Kd.int .u32) 117 w' w.heap.size (fun k_ => (w.heap.size ≤ k_)) v3_ r4 ∧ Below w.heap.size w w' := by
 unfold frac_Add.f at h
 by_cases hp : okQ a0_0 l0_1 a0_2 l0_3 ∧ okQ a1_0 l1_1 a1_2 l1_3
 ·rw [if_pos hp] at h
  refine fracK_Add.calls a0_0 A0_1 c0_1 l0_1 a0_2 A0_3 c0_3 l0_3 a1_0 A1_1 c1_1 l1_1 a1_2 A1_3 c1_3 l1_3 r1 r2 r3 r4 w hr0_1 hc0_1 hr0_3 hc0_3 hr1_1 hc1_1 hr1_3 hc1_3 ?_
  unfold fracK_Add.f frac_does.f
  rw [if_pos (show okQ a0_0 l0_1 a0_2 l0_3 ∧ okQ a1_0 l1_1 a1_2 l1_3 from hp), if_pos rfl]
  exact h
 ·rw [if_neg hp] at h
  cases h
theorem frac_Sub.calls (a0_0 : Bool) (A0_1 : Option Addr) (c0_1 : Nat) (l0_1 : List Int) (a0_2 : Bool) (A0_3 : Option Addr) (c0_3 : Nat) (l0_3 : List Int) (a1_0 : Bool) (A1_1 : Option Addr) (c1_1 : Nat) (l1_1 : List Int) (a1_2 : Bool) (A1_3 : Option Addr) (c1_3 : Nat) (l1_3 : List Int) (r1 : Bool) (r2 : List Int) (r3 : Bool) (r4 : List Int) (w : World) (hr0_1 : Kd.C (Kd.int .u32) w A0_1 l0_1.length l0_1) (hc0_1 : l0_1.length ≤ c0_1) (hr0_3 : Kd.C (Kd.int .u32) w A0_3 l0_3.length l0_3) (hc0_3 : l0_3.length ≤ c0_3) (hr1_1 : Kd.C (Kd.int .u32) w A1_1 l1_1.length l1_1) (hc1_1 : l1_1.length ≤ c1_1) (hr1_3 : Kd.C (Kd.int .u32) w A1_3 l1_3.length l1_3) (hc1_3 : l1_3.length ≤ c1_3) (h : frac_Sub.f a0_0 l0_1 a0_2 l0_3 a1_0 l1_1 a1_2 l1_3 = some (r1, r2, r3, r4)) :
  Calls Try.prog 79 #[.agg #[.bool a0_0, .slice A0_1 l0_1.length c0_1, .bool a0_2, .slice A0_3 l0_3.length c0_3], .agg #[.bool a1_0, .slice A1_1 l1_1.length c1_1, .bool a1_2, .slice A1_3 l1_3.length c1_3]] w fun e w' => ∃ v1_ v3_ : Value, e = .returned (.agg #[.bool r1, v1_, .bool r3, v3_]) ∧ Kd.V (Kd.int .u32) 117 w' w.heap.size (fun k_ => (w.heap.size ≤ k_)) v1_ r2 ∧ Kd.V (Kd.int .u32) 117 w' w.heap.size (fun k_ => (w.heap.size ≤ k_)) v3_ r4 ∧ Below w.heap.size w w' := by
 unfold frac_Sub.f at h
 by_cases hp : okQ a0_0 l0_1 a0_2 l0_3 ∧ okQ a1_0 l1_1 a1_2 l1_3
 ·rw [if_pos hp] at h
  refine fracK_Sub.calls a0_0 A0_1 c0_1 l0_1 a0_2 A0_3 c0_3 l0_3 a1_0 A1_1 c1_1 l1_1 a1_2 A1_3 c1_3 l1_3 r1 r2 r3 r4 w hr0_1 hc0_1 hr0_3 hc0_3 hr1_1 hc1_1 hr1_3 hc1_3 ?_
  unfold fracK_Sub.f frac_does.f
  rw [if_pos (show okQ a0_0 l0_1 a0_2 l0_3 ∧ okQ a1_0 l1_1 a1_2 l1_3 from hp), if_neg (by decide), if_pos rfl]
  exact h
 ·rw [if_neg hp] at h
  cases h
theorem frac_Mul.calls (a0_0 : Bool) (A0_1 : Option Addr) (c0_1 : Nat) (l0_1 : List Int) (a0_2 : Bool) (A0_3 : Option Addr) (c0_3 : Nat) (l0_3 : List Int) (a1_0 : Bool) (A1_1 : Option Addr) (c1_1 : Nat) (l1_1 : List Int) (a1_2 : Bool) (A1_3 : Option Addr) (c1_3 : Nat) (l1_3 : List Int) (r1 : Bool) (r2 : List Int) (r3 : Bool) (r4 : List Int) (w : World) (hr0_1 : Kd.C (Kd.int .u32) w A0_1 l0_1.length l0_1) (hc0_1 : l0_1.length ≤ c0_1) (hr0_3 : Kd.C (Kd.int .u32) w A0_3 l0_3.length l0_3) (hc0_3 : l0_3.length ≤ c0_3) (hr1_1 : Kd.C (Kd.int .u32) w A1_1 l1_1.length l1_1) (hc1_1 : l1_1.length ≤ c1_1) (hr1_3 : Kd.C (Kd.int .u32) w A1_3 l1_3.length l1_3) (hc1_3 : l1_3.length ≤ c1_3) (h : frac_Mul.f a0_0 l0_1 a0_2 l0_3 a1_0 l1_1 a1_2 l1_3 = some (r1, r2, r3, r4)) :
  Calls Try.prog 62 #[.agg #[.bool a0_0, .slice A0_1 l0_1.length c0_1, .bool a0_2, .slice A0_3 l0_3.length c0_3], .agg #[.bool a1_0, .slice A1_1 l1_1.length c1_1, .bool a1_2, .slice A1_3 l1_3.length c1_3]] w fun e w' => ∃ v1_ v3_ : Value, e = .returned (.agg #[.bool r1, v1_, .bool r3, v3_]) ∧ Kd.V (Kd.int .u32) 117 w' w.heap.size (fun k_ => (w.heap.size ≤ k_)) v1_ r2 ∧ Kd.V (Kd.int .u32) 117 w' w.heap.size (fun k_ => (w.heap.size ≤ k_)) v3_ r4 ∧ Below w.heap.size w w' := by
 unfold frac_Mul.f at h
 by_cases hp : okQ a0_0 l0_1 a0_2 l0_3 ∧ okQ a1_0 l1_1 a1_2 l1_3 ∧ smallQ a0_0 l0_1 ∧ smallQ a1_0 l1_1 ∧ -4611686018427387904 < zV a0_0 l0_1 * zV a1_0 l1_1 ∧ zV a0_0 l0_1 * zV a1_0 l1_1 < 4611686018427387904
 ·rw [if_pos hp] at h
  refine fracK_Mul.calls a0_0 A0_1 c0_1 l0_1 a0_2 A0_3 c0_3 l0_3 a1_0 A1_1 c1_1 l1_1 a1_2 A1_3 c1_3 l1_3 r1 r2 r3 r4 w hr0_1 hc0_1 hr0_3 hc0_3 hr1_1 hc1_1 hr1_3 hc1_3 ?_
  unfold fracK_Mul.f frac_does.f
  rw [if_pos (show okQ a0_0 l0_1 a0_2 l0_3 ∧ okQ a1_0 l1_1 a1_2 l1_3 from ⟨hp.1, hp.2.1⟩), if_neg (by decide), if_neg (by decide), if_pos ⟨rfl, hp.2.2.1, hp.2.2.2.1⟩]
  exact h
 ·rw [if_neg hp] at h
  cases h
end Go.Proofs.Ytelklgdmhnkenaa.U
namespace Go.Proofs.Ytelklgdmhnkenaa.U
attribute [local go_sem] max2_int min2_int max_two min_two max_three min_three max_four min_four
mutual
def step_Allocate.j0 : Nat → List (S99) → Bool → Bool → List Int → Bool → List Int → Option ((List (S66)) × Int)
 | 0, _, _, _, _, _, _ => none
 | k + 1, x0, x25, x606000, x606001, x606002, x606003 => if x25 = true then ((none)) else (if 0 ≤ (x0.length : Int) then (if ((x0.length : Int) : Int).toNat ≤ 4398046511104 then (step_Allocate.l0 k (List.replicate ((x0.length : Int) : Int).toNat z66) x0 (x0.length : Int) 0 x606000 x606001 x606002 x606003) else (none)) else (none))
def step_Allocate.l0 : Nat → List (S66) → List (S99) → Int → Int → Bool → List Int → Bool → List Int → Option ((List (S66)) × Int)
 | 0, _, _, _, _, _, _, _, _ => none
 | k + 1, x7, x29, x30, x31, x606000, x606001, x606002, x606003 => if x31 < x30 then (if 0 ≤ x31 then (if x31 < (x29.length : Int) then ((frac_FromInt64.f ((rd_T99 x29 x31).f0)).bind fun bt623 => ((frac_Min.f x606000 x606001 x606002 x606003 bt623.1 bt623.2.1 bt623.2.2.1 bt623.2.2.2).bind fun bt631 => (if x31 < (x7.length : Int) then ((some (x7.set (x31 : Int).toNat (⟨(⟨bt631.1, bt631.2.1⟩ : S64), (⟨bt631.2.2.1, bt631.2.2.2⟩ : S64)⟩ : S66) : List (S66))).bind fun y639 => ((frac_Sub.f x606000 x606001 x606002 x606003 ((rd_T66 y639 x31).f0.f0) ((rd_T66 y639 x31).f0.f1) ((rd_T66 y639 x31).f1.f0) ((rd_T66 y639 x31).f1.f1)).bind fun bt641 => (step_Allocate.l0 k y639 x29 x30 (wrap64 (x31 + 1)) bt641.1 bt641.2.1 bt641.2.2.1 bt641.2.2.2))) else (none)))) else (none)) else (none)) else (some (x7, 0))
end
def step_Allocate.f (k : Nat) (l0 : List (S99)) (a1_0 : Bool) (l1_1 : List Int) (a1_2 : Bool) (l1_3 : List Int) : Option ((List (S66)) × Int) := (step_curve.f l0).bind fun t606 => (if t606 = 0 then ((frac_Sign.f a1_0 l1_1 a1_2 l1_3).bind fun t607 => (if t607 < 0 then (none) else ((step_Sum.f k l0).bind fun t608 => ((frac_FromInt64.f t608).bind fun bt609 => ((frac_Cmp.f a1_0 l1_1 a1_2 l1_3 bt609.1 bt609.2.1 bt609.2.2.1 bt609.2.2.2).bind fun t617 => (step_Allocate.j0 k l0 (decide (t617 > 0)) a1_0 l1_1 a1_2 l1_3)))))) else ((none)))
def step_Allocate.T4 : Bool × List (List Nat × List Nat) := (true, [([], []), ([0], [0]), ([1], [1]), ([2, 1], [2]), ([3], [3]), ([3], [3]), ([5, 3, 3], [3, 5]), ([6, 6, 3], [3, 6]), ([4, 7, 7, 3], [3, 4, 7]), ([8, 3], [3, 8]), ([3, 9], [3, 9])])
def step_Allocate.B4 : List Nat := [0, 1, 3, 7, 15, 15, 47, 111, 255, 511, 1023]
theorem step_Allocate.tab4 : rtab .any (opsOf Try.f60 4) = step_Allocate.T4 := by kernel_rfl
theorem step_Allocate.bits4 : waitsOk step_Allocate.T4.2 step_Allocate.B4 = true := by kernel_rfl
def step_Allocate.T10 : Bool × List (List Nat × List Nat) := (true, [([], []), ([], []), ([], []), ([], []), ([3], [3]), ([4], [4]), ([2, 5, 5], [2, 5]), ([0, 1, 0, 1, 2, 3, 4, 5, 6], [0, 1]), ([7, 6, 6, 0, 1, 2, 3, 4, 5, 6], [6, 7])])
def step_Allocate.B10 : List Nat := [0, 0, 0, 0, 8, 24, 60, 127, 255]
theorem step_Allocate.tab10 : rtab .any (opsOf Try.f60 10) = step_Allocate.T10 := by kernel_rfl
theorem step_Allocate.bits10 : waitsOk step_Allocate.T10.2 step_Allocate.B10 = true := by kernel_rfl
set_option maxHeartbeats 8000000 in
set_option maxRecDepth 100000 in
theorem step_Allocate.calls (k : Nat) (A0 : Option Addr) (c0 : Nat) (l0 : List (S99)) (a1_0 : Bool) (P1_1_ : Nat → Prop) (A1_1 : Option Addr) (c1_1 : Nat) (l1_1 : List Int) (a1_2 : Bool) (P1_3_ : Nat → Prop) (A1_3 : Option Addr) (c1_3 : Nat) (l1_3 : List Int) (r1 : List (S66)) (r2 : Int) (w : World) (hr0 : Kd.C k99 w A0 l0.length l0) (hc0 : l0.length ≤ c0) (hs1_1 : Kd.V (Kd.int .u32) 117 w w.heap.size (fun k_ => P1_1_ k_) (.slice A1_1 l1_1.length c1_1) l1_1) (hs1_3 : Kd.V (Kd.int .u32) 117 w w.heap.size (fun k_ => P1_3_ k_) (.slice A1_3 l1_3.length c1_3) l1_3) (h : step_Allocate.f k l0 a1_0 l1_1 a1_2 l1_3 = some (r1, r2)) :
  Calls Try.prog 60 #[.slice A0 l0.length c0, .agg #[.bool a1_0, .slice A1_1 l1_1.length c1_1, .bool a1_2, .slice A1_3 l1_3.length c1_3]] w fun e w' => ∃ v0_ : Value, e = .returned (.tuple #[v0_, .int .i64 r2]) ∧ Kd.N k66 66 w' w.heap.size (fun k_ => ((P1_1_ k_ ∨ P1_3_ k_) ∨ w.heap.size ≤ k_)) v0_ r1 ∧ Below w.heap.size w w' := by
 have HR0 := Aside0.mk hr0
 have HC0 := Aside0.mk hc0
 clear hr0 hc0
 have HO1_1 := Aside0.mk (show Kd.V (Kd.int .u32) 117 w w.heap.size (fun k_ => ((P1_1_ k_ ∨ P1_3_ k_) ∨ w.heap.size ≤ k_)) (.slice A1_1 l1_1.length c1_1) l1_1 from Kd.V_mono hs1_1 (fun k_ hk => .inl (.inl hk)))
 have HO1_3 := Aside0.mk (show Kd.V (Kd.int .u32) 117 w w.heap.size (fun k_ => ((P1_1_ k_ ∨ P1_3_ k_) ∨ w.heap.size ≤ k_)) (.slice A1_3 l1_3.length c1_3) l1_3 from Kd.V_mono hs1_3 (fun k_ hk => .inl (.inr hk)))
 have HB := Aside0.mk (Below.refl w.heap.size w)
 have H : ((step_curve.f l0).bind fun t606 => (if t606 = 0 then ((frac_Sign.f a1_0 l1_1 a1_2 l1_3).bind fun t607 => (if t607 < 0 then (none) else ((step_Sum.f k l0).bind fun t608 => ((frac_FromInt64.f t608).bind fun bt609 => ((frac_Cmp.f a1_0 l1_1 a1_2 l1_3 bt609.1 bt609.2.1 bt609.2.2.1 bt609.2.2.2).bind fun t617 => (step_Allocate.j0 k l0 (decide (t617 > 0)) a1_0 l1_1 a1_2 l1_3)))))) else ((none)))) = some (r1, r2) := h
 clear h
 replace H := Option.bind_eq_some_iff.mp H
 obtain ⟨t606, A30, H⟩ := H
 replace H : (if t606 = 0 then ((frac_Sign.f a1_0 l1_1 a1_2 l1_3).bind fun t607 => (if t607 < 0 then (none) else ((step_Sum.f k l0).bind fun t608 => ((frac_FromInt64.f t608).bind fun bt609 => ((frac_Cmp.f a1_0 l1_1 a1_2 l1_3 bt609.1 bt609.2.1 bt609.2.2.1 bt609.2.2.2).bind fun t617 => (step_Allocate.j0 k l0 (decide (t617 > 0)) a1_0 l1_1 a1_2 l1_3)))))) else ((none))) = some (r1, r2) := H
 have A3 := Aside0.mk A30
 clear A30
 by_cases c4 : t606 = 0
 ·rw [if_pos c4] at H
  have c4b1 : (t606 != 0) = false := bne_eq_false_iff_eq.mpr c4
  clear c4
  have HC5 := Aside0.mk H
  clear H
  go_enter Try.func60, Try.ntmps60
  go_upto_region 4 with (first | ((with_reducible refine gate_dst (N := 3) rfl ?_); refine box_event ?hg (N := 3) ?hd (cs := #[.bool a1_0, .slice A1_1 l1_1.length c1_1, .bool a1_2, .slice A1_3 l1_3.length c1_3]) (t := 66) ?hr ?_; (case hd => rfl); (case hg => rfl); (case hr => exact hr_); intro gb605 hg w6 hbox hb; have BK605 := Aside0.mk (hbox); have GE605 := gW_ (w := w) hg m_1; replace HO1_1 := vE_ HO1_1 hg hb; replace HO1_3 := vE_ HO1_3 hg hb; replace HB := Aside0.mk (below_step m_1 hb); clear hb hbox hg) | ((with_reducible refine gate_callee (f := 76) rfl ?_); refine goesL_ (some 11) rfl rfl Try.func76 m_13 rfl #[.slice A0 l0.length c0] rfl m_2 ?_; (with_reducible refine (step_curve.calls _ _ l0 t606 _ ?side1 ?side2 A3.out).mono ?_); (case side1 => exact cA_ (Kd.C_below HR0.out HB.out)); (case side2 => exact HC0.out); rintro e w7 ⟨rfl, hb⟩; refine ⟨_, rfl, ?_⟩; replace HO1_1 := vB_ HO1_1 hb; replace HO1_3 := vB_ HO1_3 hb; replace BK605 := bB_ BK605 hb; replace HB := Aside0.mk (below_step m_19 hb); clear hb))
  (try simp only [Act.put, List.setIfInBounds_toArray, List.set_cons_zero, List.set_cons_succ])
  go_cut [25] (fun v25 wc => ∃ (kq : Nat) (x25_4 : Bool), v25 = .bool x25_4 ∧ Aside0 (step_Allocate.j0 kq l0 x25_4 a1_0 l1_1 a1_2 l1_3 = some (r1, r2)) ∧ Aside0 (kq ≤ k) ∧ Aside0 (Kd.V (Kd.int .u32) 117 wc w.heap.size (fun k_ => ((P1_1_ k_ ∨ P1_3_ k_) ∨ w.heap.size ≤ k_) ∧ k_ ≠ gb605) (.slice A1_1 l1_1.length c1_1) l1_1) ∧ Aside0 (Kd.V (Kd.int .u32) 117 wc w.heap.size (fun k_ => ((P1_1_ k_ ∨ P1_3_ k_) ∨ w.heap.size ≤ k_) ∧ k_ ≠ gb605) (.slice A1_3 l1_3.length c1_3) l1_3) ∧ Aside0 (wc.heap[gb605]? = some (.cells #[.bool a1_0, (.slice A1_1 l1_1.length c1_1), .bool a1_2, (.slice A1_3 l1_3.length c1_3)] 66 (0, 0))) ∧ Aside0 (Below w.heap.size w wc))
  case first =>
   have H := HC5.out
   clear HC5
   replace H := Option.bind_eq_some_iff.mp H
   obtain ⟨t607, A80, H⟩ := H
   replace H : (if t607 < 0 then (none) else ((step_Sum.f k l0).bind fun t608 => ((frac_FromInt64.f t608).bind fun bt609 => ((frac_Cmp.f a1_0 l1_1 a1_2 l1_3 bt609.1 bt609.2.1 bt609.2.2.1 bt609.2.2.2).bind fun t617 => (step_Allocate.j0 k l0 (decide (t617 > 0)) a1_0 l1_1 a1_2 l1_3))))) = some (r1, r2) := H
   have A8 := Aside0.mk A80
   clear A80
   by_cases c9 : t607 < 0
   ·rw [if_pos c9] at H
    cases H
   ·rw [if_neg c9] at H
    have c9b0 : decide (t607 < 0) = false := decide_eq_false c9
    clear c9
    (first | rw [c9b0] | (simp only [i64_w, i32_w]; rw [c9b0]) | skip)
    replace H := Option.bind_eq_some_iff.mp H
    obtain ⟨t608, A120, H⟩ := H
    replace H : ((frac_FromInt64.f t608).bind fun bt609 => ((frac_Cmp.f a1_0 l1_1 a1_2 l1_3 bt609.1 bt609.2.1 bt609.2.2.1 bt609.2.2.2).bind fun t617 => (step_Allocate.j0 k l0 (decide (t617 > 0)) a1_0 l1_1 a1_2 l1_3))) = some (r1, r2) := H
    have A12 := Aside0.mk A120
    clear A120
    replace H := Option.bind_eq_some_iff.mp H
    obtain ⟨⟨t609, t610, t613, t614⟩, A130, H⟩ := H
    replace H : ((frac_Cmp.f a1_0 l1_1 a1_2 l1_3 t609 t610 t613 t614).bind fun t617 => (step_Allocate.j0 k l0 (decide (t617 > 0)) a1_0 l1_1 a1_2 l1_3)) = some (r1, r2) := H
    have A13 := Aside0.mk A130
    clear A130
    replace H := Option.bind_eq_some_iff.mp H
    obtain ⟨t617, A140, H⟩ := H
    replace H : (step_Allocate.j0 k l0 (decide (t617 > 0)) a1_0 l1_1 a1_2 l1_3) = some (r1, r2) := H
    have A14 := Aside0.mk A140
    clear A140
    have H' := Aside0.mk H
    clear H
    try go_wp2
    replace HO1_1 := vD_ HO1_1
    replace HO1_3 := vD_ HO1_3
    replace BK605 := bD_ BK605
    replace HB := Aside0.mk (below_drew1 HB.out)
    refine start_ (n := 11) (S := fun w' => w'.cell? ⟨gb605, 0, none⟩ = some (.bool a1_0) ∧ w'.cell? ⟨gb605, 1, none⟩ = some (.slice A1_1 l1_1.length c1_1) ∧ w'.cell? ⟨gb605, 2, none⟩ = some (.bool a1_2) ∧ w'.cell? ⟨gb605, 3, none⟩ = some (.slice A1_3 l1_3.length c1_3)) (ds := []) #[false, false, false, false, false, false, false, false, false, false, false] m_13 rfl rfl ⟨(blk_cell BK605.out 0).trans rfl, (blk_cell BK605.out 1).trans rfl, (blk_cell BK605.out 2).trans rfl, (blk_cell BK605.out 3).trans rfl⟩ (fun hHeld => ?_); refine with_tabW step_Allocate.tab4 step_Allocate.bits4 (fun HT_ HW_ => ?_)
    generalize w7.drew = w15 at HO1_1 HO1_3 BK605 HB hHeld ⊢
    refine tA_ 0 HT_.out HW_.out hHeld ?_
    refine cB_1 1 Try.func77 (args := #[.agg #[.bool a1_0, .slice A1_1 l1_1.length c1_1, .bool a1_2, .slice A1_3 l1_3.length c1_3]]) ?_
    with_reducible refine (frac_Sign.calls a1_0 _ _ l1_1 a1_2 _ _ l1_3 t607 _ ?side1 ?side2 ?side3 ?side4 A8.out).mono ?_
    (case side1 => exact cA_ (Kd.V_reads' HO1_1.out).2.2)
    (case side2 => exact (Kd.V_reads' HO1_1.out).2.1)
    (case side3 => exact cA_ (Kd.V_reads' HO1_3.out).2.2)
    (case side4 => exact (Kd.V_reads' HO1_3.out).2.1)
    rintro e w16 ⟨rfl, hb⟩
    refine ⟨_, rfl, ?_⟩
    replace HO1_1 := vB_ HO1_1 hb
    replace HO1_3 := vB_ HO1_3 hb
    replace BK605 := bB_ BK605 hb
    replace HB := Aside0.mk (below_step m_19 hb)
    (try clear hb); (try clear hb2); (try clear hk); (try clear hi)
    refine nx_ ⟨(blk_cell BK605.out 0).trans rfl, (blk_cell BK605.out 1).trans rfl, (blk_cell BK605.out 2).trans rfl, (blk_cell BK605.out 3).trans rfl⟩ (fun hHeld => ?_)
    refine pA_ 2 HT_.out ?_
    refine pA_ 3 HT_.out ?_
    refine pA_ 5 HT_.out ?_
    refine tA_ 4 HT_.out HW_.out hHeld ?_
    refine cB_1 6 Try.func59 (args := #[.slice A0 l0.length c0]) ?_
    with_reducible refine (step_Sum.calls k _ _ l0 t608 _ ?side1 ?side2 A12.out).mono ?_
    (case side1 => exact cA_ (Kd.C_below HR0.out HB.out))
    (case side2 => exact HC0.out)
    rintro e w17 ⟨rfl, hb⟩
    refine ⟨_, rfl, ?_⟩
    replace HO1_1 := vB_ HO1_1 hb
    replace HO1_3 := vB_ HO1_3 hb
    replace BK605 := bB_ BK605 hb
    replace HB := Aside0.mk (below_step m_19 hb)
    (try clear hb); (try clear hb2); (try clear hk); (try clear hi)
    refine nx_ ⟨(blk_cell BK605.out 0).trans rfl, (blk_cell BK605.out 1).trans rfl, (blk_cell BK605.out 2).trans rfl, (blk_cell BK605.out 3).trans rfl⟩ (fun hHeld => ?_)
    refine cB_1 7 Try.func39 (args := #[.int .i64 t608]) ?_
    with_reducible refine (frac_FromInt64.calls t608 t609 t610 t613 t614 _ A13.out).mono ?_
    rintro e w18 ⟨v611, v615, rfl, ho0, ho1, hb⟩
    refine ⟨_, rfl, ?_⟩
    have HO612 := Aside0.mk (Kd.V_lower (Kd.V_mono (ok' := fun k_ => ((P1_1_ k_ ∨ P1_3_ k_) ∨ w.heap.size ≤ k_) ∧ k_ ≠ gb605) ho0 (fun k_ hk_ => ⟨(.inr (Nat.le_trans (below_size m_19) hk_)), (Kd.freshB (bA_ BK605.out) k_ hk_)⟩)) (below_size m_19))
    have HO616 := Aside0.mk (Kd.V_lower (Kd.V_mono (ok' := fun k_ => ((P1_1_ k_ ∨ P1_3_ k_) ∨ w.heap.size ≤ k_) ∧ k_ ≠ gb605) ho1 (fun k_ hk_ => ⟨(.inr (Nat.le_trans (below_size m_19) hk_)), (Kd.freshB (bA_ BK605.out) k_ hk_)⟩)) (below_size m_19))
    replace HO1_1 := vB_ HO1_1 hb
    replace HO1_3 := vB_ HO1_3 hb
    replace BK605 := bB_ BK605 hb
    replace HB := Aside0.mk (below_step m_19 hb)
    (try clear hb); (try clear hb2); (try clear hk); (try clear hi); (try clear ho0); (try clear ho1)
    obtain ⟨Ao19, co19, eo19⟩ := Kd.V_slice HO612.out
    (first | subst eo19 | (injection eo19 with f1_ f2_ f3_; have f4_ := f1_.symm; have f5_ := f3_.symm; clear f1_ f2_ f3_; subst f4_; subst f5_))
    obtain ⟨Ao20, co20, eo20⟩ := Kd.V_slice HO616.out
    (first | subst eo20 | (injection eo20 with f1_ f2_ f3_; have f4_ := f1_.symm; have f5_ := f3_.symm; clear f1_ f2_ f3_; subst f4_; subst f5_))
    refine nx_ ⟨(blk_cell BK605.out 0).trans rfl, (blk_cell BK605.out 1).trans rfl, (blk_cell BK605.out 2).trans rfl, (blk_cell BK605.out 3).trans rfl⟩ (fun hHeld => ?_)
    refine cB_1 8 Try.func64 (args := #[.agg #[.bool a1_0, .slice A1_1 l1_1.length c1_1, .bool a1_2, .slice A1_3 l1_3.length c1_3], .agg #[.bool t609, .slice Ao19 t610.length co19, .bool t613, .slice Ao20 t614.length co20]]) ?_
    with_reducible refine (frac_Cmp.calls a1_0 _ _ l1_1 a1_2 _ _ l1_3 t609 _ _ t610 t613 _ _ t614 t617 _ ?side1 ?side2 ?side3 ?side4 ?side5 ?side6 ?side7 ?side8 A14.out).mono ?_
    (case side1 => exact cA_ (Kd.V_reads' HO1_1.out).2.2)
    (case side2 => exact (Kd.V_reads' HO1_1.out).2.1)
    (case side3 => exact cA_ (Kd.V_reads' HO1_3.out).2.2)
    (case side4 => exact (Kd.V_reads' HO1_3.out).2.1)
    (case side5 => exact cA_ (Kd.V_reads' HO612.out).2.2)
    (case side6 => exact (Kd.V_reads' HO612.out).2.1)
    (case side7 => exact cA_ (Kd.V_reads' HO616.out).2.2)
    (case side8 => exact (Kd.V_reads' HO616.out).2.1)
    rintro e w21 ⟨rfl, hb⟩
    refine ⟨_, rfl, ?_⟩
    replace HO1_1 := vB_ HO1_1 hb
    replace HO1_3 := vB_ HO1_3 hb
    replace HO612 := vB_ HO612 hb
    replace HO616 := vB_ HO616 hb
    replace BK605 := bB_ BK605 hb
    replace HB := Aside0.mk (below_step m_19 hb)
    (try clear hb); (try clear hb2); (try clear hk); (try clear hi)
    refine nx_ ⟨(blk_cell BK605.out 0).trans rfl, (blk_cell BK605.out 1).trans rfl, (blk_cell BK605.out 2).trans rfl, (blk_cell BK605.out 3).trans rfl⟩ (fun hHeld => ?_)
    refine pA_ 9 HT_.out ?_
    refine pA_ 10 HT_.out ?_
    refine done_ (done_of HT_.out m_13) ?_
    try go_wp2
    go_meet
    case rel => exact ⟨_, (decide (t617 > 0)), m_9, H', ⟨m_71⟩, ⟨(by (with_reducible repeat (first | apply Kd.V_alloc | apply Kd.V_drewN | apply Kd.V_drew)); exact HO1_1.out)⟩, ⟨(by (with_reducible repeat (first | apply Kd.V_alloc | apply Kd.V_drewN | apply Kd.V_drew)); exact HO1_3.out)⟩, ⟨m_147⟩, ⟨m_19⟩⟩
  case rest =>
   clear HC5
   (try clear c1); (try clear p2); (try clear c3); (try clear c4); (try skip); (try clear c4b1); (try clear c5); (try clear c6); (try clear c7); (try clear c9); (try clear c9b0)
   obtain ⟨kq, x25_4, rfl, HA, HJ4, HO_606001, HO_606003, BK605, HB⟩ := hcut
   cases kq with
   | zero => exact absurd HA.out (by simp [step_Allocate.j0])
   | succ kj4 =>
    have H := HA.out
    clear HA
    simp only [step_Allocate.j0] at H
    by_cases c22 : x25_4 = true
    ·rw [if_pos c22] at H
     cases H
    ·replace c22 := Bool.eq_false_iff.mpr c22
     subst c22
     have H1 : (if 0 ≤ (l0.length : Int) then (if ((l0.length : Int) : Int).toNat ≤ 4398046511104 then (step_Allocate.l0 kj4 (List.replicate ((l0.length : Int) : Int).toNat z66) l0 (l0.length : Int) 0 a1_0 l1_1 a1_2 l1_3) else (none)) else (none)) = some (r1, r2) := by rw [if_neg (show ¬ (false = true) by decide)] at H; exact H
     clear H
     have H := H1
     clear H1
     by_cases c23 : 0 ≤ (l0.length : Int)
     ·rw [if_pos c23] at H
      have c23b1 : decide (0 ≤ (l0.length : Int)) = true := decide_eq_true c23
      clear c23
      by_cases c24 : ((l0.length : Int) : Int).toNat ≤ 4398046511104
      ·rw [if_pos c24] at H
       have c24b1 : decide (((l0.length : Int) : Int).toNat ≤ 4398046511104) = true := decide_eq_true c24
       clear c24
       obtain ⟨y618, hy618⟩ : ∃ y_ : List (S66), y_ = (List.replicate ((l0.length : Int) : Int).toNat z66) := ⟨_, rfl⟩
       replace H : (step_Allocate.l0 kj4 y618 l0 (l0.length : Int) 0 a1_0 l1_1 a1_2 l1_3) = some (r1, r2) := by first | (rw [hy618]; with_reducible exact H) | (have H2_ := (Option.bind_some _ _).symm.trans H; rw [hy618]; with_reducible exact H2_) | (have H2_ := (Option.bind_some _ _).symm.trans H; with_reducible exact H2_) | with_reducible exact H | (rw [hy618]; exact H) | exact H
       have Ny618 := Aside0.mk hy618
       clear hy618
       have H' := Aside0.mk H
       clear H
       go_wp2_with (first | ((with_reducible refine gate_dst (N := 28) rfl ?_); refine Kd.N_make k66 _ 66 rfl (N' := 28) rfl 94 _ _ rfl (l0.length : Int) rfl rfl Try.underlying94 (.agg #[(.bool false), (.slice none 0 0), (.bool false), (.slice none 0 0)]) 64 info66 rfl (by decide) (by omega) z66 (ok := fun k_ => wc.heap.size ≤ k_) (okp := fun _ => False) (k66_mkF _ _ z66 (Nat.le_refl _) (Kd.F_nil _ _ _) (Nat.le_refl _) (Kd.F_nil _ _ _)) (fun _ hk => hk.elim) (Nat.le_refl _) (of_decide_eq_true m_4) (Nat.le_trans (Nat.mul_le_mul_right _ (of_decide_eq_true m_4 : (l0.length : Int).toNat ≤ 4398046511104)) (by omega)) (Below.refl _ _) (Nat.le_refl _) ?_; intro v619 w25 ho26 hb hg_ hnew_; clear hg_ hnew_; (first | rw [← Ny618.out] at ho26 | (simp only [Int.reduceToNat] at ho26; rw [← Ny618.out] at ho26)); have HO620 := Aside0.mk (Kd.N_lower (Kd.N_mono (ok' := fun k_ => ((P1_1_ k_ ∨ P1_3_ k_) ∨ w.heap.size ≤ k_) ∧ k_ ≠ gb605) ho26 (fun k_ hk_ => ⟨(.inr (Nat.le_trans (below_size m_19) hk_)), (Kd.freshB (bA_ BK605.out) k_ hk_)⟩)) (below_size m_19)); replace HO_606001 := Aside0.mk (Kd.V_elder' (vA_ HO_606001.out) (Kd.N_base ho26) hb); replace HO_606003 := Aside0.mk (Kd.V_elder' (vA_ HO_606003.out) (Kd.N_base ho26) hb); replace BK605 := bB_ BK605 hb; replace HB := Aside0.mk (below_step m_19 hb); clear hb ho26))
       go_loopg [31] kj4 (fun kq v31 w' => ∃ (x7_2 : List (S66)) (x31_2 : Int) (x606000_2 : Bool) (x606001_2 : List Int) (x606002_2 : Bool) (x606003_2 : List Int) (u606001 : Value) (u606003 : Value), v31 = .int .i64 x31_2 ∧ Aside0 (step_Allocate.l0 kq x7_2 l0 (l0.length : Int) x31_2 x606000_2 x606001_2 x606002_2 x606003_2 = some (r1, r2)) ∧ Aside0 (kq ≤ kj4) ∧ Aside0 (Kd.N k66 66 w' w.heap.size (fun k_ => ((P1_1_ k_ ∨ P1_3_ k_) ∨ w.heap.size ≤ k_) ∧ k_ ≠ gb605) v619 x7_2) ∧ Aside0 (Kd.V (Kd.int .u32) 117 w' w.heap.size (fun k_ => ((P1_1_ k_ ∨ P1_3_ k_) ∨ w.heap.size ≤ k_) ∧ some k_ ≠ (v619 : Value).ownBlock ∧ k_ ≠ gb605) u606001 x606001_2) ∧ Aside0 (Kd.V (Kd.int .u32) 117 w' w.heap.size (fun k_ => ((P1_1_ k_ ∨ P1_3_ k_) ∨ w.heap.size ≤ k_) ∧ some k_ ≠ (v619 : Value).ownBlock ∧ k_ ≠ gb605) u606003 x606003_2) ∧ Aside0 (w'.heap[gb605]? = some (.cells #[.bool x606000_2, u606001, .bool x606002_2, u606003] 66 (0, 0))) ∧ Aside0 (Below w.heap.size w w'))
       case atStart => exact ⟨(y618), (0), (a1_0), (l1_1), (a1_2), (l1_3), (.slice A1_1 l1_1.length c1_1), (.slice A1_3 l1_3.length c1_3), m_9, H', ⟨Nat.le_refl _⟩, ⟨(by (with_reducible repeat (first | apply Kd.N_alloc | apply Kd.N_drewN | apply Kd.N_drew)); exact HO620.out)⟩, ⟨(by (with_reducible repeat (first | apply Kd.V_alloc | apply Kd.V_drewN | apply Kd.V_drew)); exact Kd.V_mono HO_606001.out (fun _ hk => ⟨hk.1.1, ⟨hk.2, hk.1.2⟩⟩))⟩, ⟨(by (with_reducible repeat (first | apply Kd.V_alloc | apply Kd.V_drewN | apply Kd.V_drew)); exact Kd.V_mono HO_606003.out (fun _ hk => ⟨hk.1.1, ⟨hk.2, hk.1.2⟩⟩))⟩, ⟨m_147⟩, ⟨m_19⟩⟩
       case round =>
        clear H'
        (try clear c1); (try clear c2); (try clear p2); (try clear c3); (try clear c4); (try skip); (try clear c4b1); (try clear c5); (try clear c6); (try clear c7); (try clear c9); (try clear c9b0); (try clear c22); (try clear c23); (try skip); (try clear c23b1); (try clear c24); (try skip); (try clear c24b1); (try clear p2)
        obtain ⟨x7_2, x31_2, x606000_2, x606001_2, x606002_2, x606003_2, u606001, u606003, rfl, HA, HK2, HO_7, HO_606001, HO_606003, BK605, HB⟩ := hrel
        cases gk with
        | zero => exact absurd HA.out (by simp [step_Allocate.l0])
        | succ k2 =>
         have H := HA.out
         clear HA
         simp only [step_Allocate.l0] at H
         by_cases c27 : x31_2 < (l0.length : Int)
         ·rw [if_pos c27] at H
          clear c27
          by_cases c28 : 0 ≤ x31_2
          ·rw [if_pos c28] at H
           have c28b0 : decide (0 ≤ x31_2) = true := decide_eq_true c28
           clear c28
           by_cases c29 : x31_2 < (l0.length : Int)
           ·rw [if_pos c29] at H
            have c29b0 : decide (x31_2 < (l0.length : Int)) = true := decide_eq_true c29
            clear c29
            replace H := Option.bind_eq_some_iff.mp H
            obtain ⟨⟨t623, t624, t627, t628⟩, A300, H⟩ := H
            replace H : ((frac_Min.f x606000_2 x606001_2 x606002_2 x606003_2 t623 t624 t627 t628).bind fun bt631 => (if x31_2 < (x7_2.length : Int) then ((some (x7_2.set (x31_2 : Int).toNat (⟨(⟨bt631.1, bt631.2.1⟩ : S64), (⟨bt631.2.2.1, bt631.2.2.2⟩ : S64)⟩ : S66) : List (S66))).bind fun y639 => ((frac_Sub.f x606000_2 x606001_2 x606002_2 x606003_2 ((rd_T66 y639 x31_2).f0.f0) ((rd_T66 y639 x31_2).f0.f1) ((rd_T66 y639 x31_2).f1.f0) ((rd_T66 y639 x31_2).f1.f1)).bind fun bt641 => (step_Allocate.l0 k2 y639 l0 (l0.length : Int) (wrap64 (x31_2 + 1)) bt641.1 bt641.2.1 bt641.2.2.1 bt641.2.2.2))) else (none))) = some (r1, r2) := H
            have A30 := Aside0.mk A300
            clear A300
            replace H := Option.bind_eq_some_iff.mp H
            obtain ⟨⟨t631, t632, t635, t636⟩, A310, H⟩ := H
            replace H : (if x31_2 < (x7_2.length : Int) then ((some (x7_2.set (x31_2 : Int).toNat (⟨(⟨t631, t632⟩ : S64), (⟨t635, t636⟩ : S64)⟩ : S66) : List (S66))).bind fun y639 => ((frac_Sub.f x606000_2 x606001_2 x606002_2 x606003_2 ((rd_T66 y639 x31_2).f0.f0) ((rd_T66 y639 x31_2).f0.f1) ((rd_T66 y639 x31_2).f1.f0) ((rd_T66 y639 x31_2).f1.f1)).bind fun bt641 => (step_Allocate.l0 k2 y639 l0 (l0.length : Int) (wrap64 (x31_2 + 1)) bt641.1 bt641.2.1 bt641.2.2.1 bt641.2.2.2))) else (none)) = some (r1, r2) := H
            have A31 := Aside0.mk A310
            clear A310
            by_cases c32 : x31_2 < (x7_2.length : Int)
            ·rw [if_pos c32] at H
             have c32b0 : decide (x31_2 < (x7_2.length : Int)) = true := decide_eq_true c32
             clear c32
             obtain ⟨y639, hy639⟩ : ∃ y_ : List (S66), y_ = (x7_2.set (x31_2 : Int).toNat (⟨(⟨t631, t632⟩ : S64), (⟨t635, t636⟩ : S64)⟩ : S66)) := ⟨_, rfl⟩
             replace H : ((frac_Sub.f x606000_2 x606001_2 x606002_2 x606003_2 ((rd_T66 y639 x31_2).f0.f0) ((rd_T66 y639 x31_2).f0.f1) ((rd_T66 y639 x31_2).f1.f0) ((rd_T66 y639 x31_2).f1.f1)).bind fun bt641 => (step_Allocate.l0 k2 y639 l0 (l0.length : Int) (wrap64 (x31_2 + 1)) bt641.1 bt641.2.1 bt641.2.2.1 bt641.2.2.2)) = some (r1, r2) := by first | (rw [hy639]; with_reducible exact H) | (have H2_ := (Option.bind_some _ _).symm.trans H; rw [hy639]; with_reducible exact H2_) | (have H2_ := (Option.bind_some _ _).symm.trans H; with_reducible exact H2_) | with_reducible exact H | (rw [hy639]; exact H) | exact H
             have Ny639 := Aside0.mk hy639
             clear hy639
             replace H := Option.bind_eq_some_iff.mp H
             obtain ⟨⟨t641, t642, t645, t646⟩, A340, H⟩ := H
             replace H : (step_Allocate.l0 k2 y639 l0 (l0.length : Int) (wrap64 (x31_2 + 1)) t641 t642 t645 t646) = some (r1, r2) := H
             have A34 := Aside0.mk A340
             clear A340
             have H' := Aside0.mk H
             clear H
             have p621 : 0 ≤ (x31_2 : Int) := of_decide_eq_true m_4
             have q621 : x31_2 < (l0.length : Int) := of_decide_eq_true m_4
             obtain ⟨ad621, e621, hx621_0, hx621_1⟩ := at_T99 HR0.out x31_2 p621 q621
             cases e621
             replace hx621_0 := mv_ HB hx621_0
             replace hx621_1 := mv_ HB hx621_1
             replace p621 := eq_true p621
             replace q621 := eq_true q621
             try go_wp2_with (first | ((with_reducible refine gate_dst (N := 9) rfl ?_); refine box_event ?hg (N := 9) ?hd (cs := #[.int .i64 0, .int .i64 0]) (t := 99) ?hr ?_; (case hd => rfl); (case hg => rfl); (case hr => exact hr_); intro gb622 hg w35 hbox hb; have BK622 := Aside0.mk (hbox); have GE622 := gW_ (w := w) hg m_19; have NB605_622 := nl_ BK605 hg; replace HO_7 := Aside0.mk (Kd.N_below (Kd.N_elderB m_52 gb622 (Nat.le_of_eq hg.symm)) hb); replace HO_606001 := vE_ HO_606001 hg hb; replace HO_606003 := vE_ HO_606003 hg hb; replace BK605 := bB_ BK605 hb; replace HB := Aside0.mk (below_step m_19 hb); clear hb hbox hg; obtain ⟨hcz37_0, hcz37_1, hfz37_0, hfz37_1⟩ := cf2_ BK622))
             have n0_ : Aside0 (Kd.N k66 66 ((w35.setCell ⟨gb622, 0, none⟩ (.int .i64 ((rd_T99 l0 x31_2).f0))).setCell ⟨gb622, 1, none⟩ (.int .i64 ((rd_T99 l0 x31_2).f1))) w.heap.size (fun k_ => ((P1_1_ k_ ∨ P1_3_ k_) ∨ w.heap.size ≤ k_) ∧ k_ ≠ gb605 ∧ k_ ≠ gb622) v619 x7_2) := ⟨(by (with_reducible repeat (first | apply Kd.N_alloc | apply Kd.N_drewN | apply Kd.N_drew)); exact Kd.N_mono (Kd.N_far (p := ⟨gb622, 1, none⟩) (Kd.N_far (p := ⟨gb622, 0, none⟩) (Kd.N_mono HO_7.out (fun k_ hk => (⟨hk, hk.2⟩ : _ ∧ k_ ≠ gb622))) (fun _ hk => hk.2) (.int .i64 ((rd_T99 l0 x31_2).f0))) (fun _ hk => hk.2) (.int .i64 ((rd_T99 l0 x31_2).f1))) (fun _ hk => ⟨hk.1.1.1, ⟨hk.1.1.2, hk.1.2⟩⟩))⟩
             have n1_ : Aside0 (Kd.V (Kd.int .u32) 117 ((w35.setCell ⟨gb622, 0, none⟩ (.int .i64 ((rd_T99 l0 x31_2).f0))).setCell ⟨gb622, 1, none⟩ (.int .i64 ((rd_T99 l0 x31_2).f1))) w.heap.size (fun k_ => ((P1_1_ k_ ∨ P1_3_ k_) ∨ w.heap.size ≤ k_) ∧ some k_ ≠ (v619 : Value).ownBlock ∧ k_ ≠ gb605 ∧ k_ ≠ gb622) u606001 x606001_2) := ⟨(by (with_reducible repeat (first | apply Kd.V_alloc | apply Kd.V_drewN | apply Kd.V_drew)); exact Kd.V_mono (Kd.V_far (p := ⟨gb622, 1, none⟩) (Kd.V_far (p := ⟨gb622, 0, none⟩) (Kd.V_mono HO_606001.out (fun k_ hk => (⟨hk, hk.2⟩ : _ ∧ k_ ≠ gb622))) (fun _ hk => hk.2) (.int .i64 ((rd_T99 l0 x31_2).f0))) (fun _ hk => hk.2) (.int .i64 ((rd_T99 l0 x31_2).f1))) (fun _ hk => ⟨hk.1.1.1, ⟨hk.1.1.2.1, ⟨hk.1.1.2.2, hk.1.2⟩⟩⟩))⟩
             have n2_ : Aside0 (Kd.V (Kd.int .u32) 117 ((w35.setCell ⟨gb622, 0, none⟩ (.int .i64 ((rd_T99 l0 x31_2).f0))).setCell ⟨gb622, 1, none⟩ (.int .i64 ((rd_T99 l0 x31_2).f1))) w.heap.size (fun k_ => ((P1_1_ k_ ∨ P1_3_ k_) ∨ w.heap.size ≤ k_) ∧ some k_ ≠ (v619 : Value).ownBlock ∧ k_ ≠ gb605 ∧ k_ ≠ gb622) u606003 x606003_2) := ⟨(by (with_reducible repeat (first | apply Kd.V_alloc | apply Kd.V_drewN | apply Kd.V_drew)); exact Kd.V_mono (Kd.V_far (p := ⟨gb622, 1, none⟩) (Kd.V_far (p := ⟨gb622, 0, none⟩) (Kd.V_mono HO_606003.out (fun k_ hk => (⟨hk, hk.2⟩ : _ ∧ k_ ≠ gb622))) (fun _ hk => hk.2) (.int .i64 ((rd_T99 l0 x31_2).f0))) (fun _ hk => hk.2) (.int .i64 ((rd_T99 l0 x31_2).f1))) (fun _ hk => ⟨hk.1.1.1, ⟨hk.1.1.2.1, ⟨hk.1.1.2.2, hk.1.2⟩⟩⟩))⟩
             have n3_ : Aside0 (((w35.setCell ⟨gb622, 0, none⟩ (.int .i64 ((rd_T99 l0 x31_2).f0))).setCell ⟨gb622, 1, none⟩ (.int .i64 ((rd_T99 l0 x31_2).f1))).heap[gb605]? = some (.cells #[.bool x606000_2, u606001, .bool x606002_2, u606003] 66 (0, 0))) := ⟨(by (with_reducible repeat (first | refine blk_drewN ?_ _ | refine blk_drew ?_ | refine blk_alloc ?_ _)); refine blk_far ?_ NB605_622.out _; (with_reducible repeat (first | refine blk_drewN ?_ _ | refine blk_drew ?_ | refine blk_alloc ?_ _)); refine blk_far ?_ NB605_622.out _; (with_reducible repeat (first | refine blk_drewN ?_ _ | refine blk_drew ?_ | refine blk_alloc ?_ _)); exact BK605.out)⟩
             have n4_ : Aside0 (((w35.setCell ⟨gb622, 0, none⟩ (.int .i64 ((rd_T99 l0 x31_2).f0))).setCell ⟨gb622, 1, none⟩ (.int .i64 ((rd_T99 l0 x31_2).f1))).heap[gb622]? = some (.cells #[.int .i64 ((rd_T99 l0 x31_2).f0), .int .i64 ((rd_T99 l0 x31_2).f1)] 99 (0, 0))) := ⟨(by (with_reducible repeat (first | refine blk_drewN ?_ _ | refine blk_drew ?_ | refine blk_alloc ?_ _)); refine blk_put (cs := #[.int .i64 ((rd_T99 l0 x31_2).f0), .int .i64 0]) ?_ 1 _ rfl; (with_reducible repeat (first | refine blk_drewN ?_ _ | refine blk_drew ?_ | refine blk_alloc ?_ _)); refine blk_put (cs := #[.int .i64 0, .int .i64 0]) ?_ 0 _ rfl; (with_reducible repeat (first | refine blk_drewN ?_ _ | refine blk_drew ?_ | refine blk_alloc ?_ _)); exact BK622.out)⟩
             have n5_ : Aside0 (Below w.heap.size w ((w35.setCell ⟨gb622, 0, none⟩ (.int .i64 ((rd_T99 l0 x31_2).f0))).setCell ⟨gb622, 1, none⟩ (.int .i64 ((rd_T99 l0 x31_2).f1)))) := ⟨m_16⟩
             (try clear HO_7); (try clear HO_606001); (try clear HO_606003); (try clear BK605); (try clear BK622); (try clear HB)
             generalize ((w35.setCell ⟨gb622, 0, none⟩ (.int .i64 ((rd_T99 l0 x31_2).f0))).setCell ⟨gb622, 1, none⟩ (.int .i64 ((rd_T99 l0 x31_2).f1))) = w38 at n0_ n1_ n2_ n3_ n4_ n5_ ⊢
             have HO_7 := n0_
             have HO_606001 := n1_
             have HO_606003 := n2_
             have BK605 := n3_
             have BK622 := n4_
             have HB := n5_
             clear n0_ n1_ n2_ n3_ n4_ n5_
             replace HO_7 := Aside0.mk (Kd.N_drew HO_7.out)
             replace HO_606001 := vD_ HO_606001
             replace HO_606003 := vD_ HO_606003
             replace BK605 := bD_ BK605
             replace BK622 := bD_ BK622
             replace HB := Aside0.mk (below_drew1 HB.out)
             refine start_ (n := 9) (S := fun w' => w'.cell? ⟨gb605, 0, none⟩ = some (.bool x606000_2) ∧ w'.cell? ⟨gb605, 1, none⟩ = some (u606001) ∧ w'.cell? ⟨gb605, 2, none⟩ = some (.bool x606002_2) ∧ w'.cell? ⟨gb605, 3, none⟩ = some (u606003) ∧ w'.cell? ⟨gb622, 0, none⟩ = some (.int .i64 ((rd_T99 l0 x31_2).f0)) ∧ w'.cell? ⟨gb622, 1, none⟩ = some (.int .i64 ((rd_T99 l0 x31_2).f1))) (ds := [8]) #[false, false, false, false, false, false, false, false, false] m_13 rfl rfl ⟨(blk_cell BK605.out 0).trans rfl, (blk_cell BK605.out 1).trans rfl, (blk_cell BK605.out 2).trans rfl, (blk_cell BK605.out 3).trans rfl, (blk_cell BK622.out 0).trans rfl, (blk_cell BK622.out 1).trans rfl⟩ (fun hHeld => ?_); refine with_tabW step_Allocate.tab10 step_Allocate.bits10 (fun HT_ HW_ => ?_)
             generalize w38.drew = w39 at HO_7 HO_606001 HO_606003 BK605 BK622 HB hHeld ⊢
             refine pA_ 0 HT_.out ?_
             refine pA_ 1 HT_.out ?_
             refine pA_ 3 HT_.out ?_
             refine tA_ 2 HT_.out HW_.out hHeld ?_
             refine tA_ 4 HT_.out HW_.out hHeld ?_
             refine cB_1 5 Try.func39 (args := #[.int .i64 ((rd_T99 l0 x31_2).f0)]) ?_
             with_reducible refine (frac_FromInt64.calls ((rd_T99 l0 x31_2).f0) t623 t624 t627 t628 _ A30.out).mono ?_
             rintro e w40 ⟨v625, v629, rfl, ho0, ho1, hb⟩
             refine ⟨_, rfl, ?_⟩
             have HO626 := Aside0.mk (Kd.V_lower (Kd.V_mono (ok' := fun k_ => ((P1_1_ k_ ∨ P1_3_ k_) ∨ w.heap.size ≤ k_) ∧ some k_ ≠ (v619 : Value).ownBlock ∧ k_ ≠ gb605 ∧ k_ ≠ gb622) ho0 (fun k_ hk_ => ⟨(.inr (Nat.le_trans (below_size m_16) hk_)), (Kd.fresh' (Kd.N_lt m_52) k_ hk_), (Kd.freshB (bA_ BK605.out) k_ hk_), (Kd.freshB (bA_ BK622.out) k_ hk_)⟩)) (below_size m_16))
             have HO630 := Aside0.mk (Kd.V_lower (Kd.V_mono (ok' := fun k_ => ((P1_1_ k_ ∨ P1_3_ k_) ∨ w.heap.size ≤ k_) ∧ some k_ ≠ (v619 : Value).ownBlock ∧ k_ ≠ gb605 ∧ k_ ≠ gb622) ho1 (fun k_ hk_ => ⟨(.inr (Nat.le_trans (below_size m_16) hk_)), (Kd.fresh' (Kd.N_lt m_52) k_ hk_), (Kd.freshB (bA_ BK605.out) k_ hk_), (Kd.freshB (bA_ BK622.out) k_ hk_)⟩)) (below_size m_16))
             replace HO_7 := Aside0.mk (Kd.N_below m_52 hb)
             replace HO_606001 := vB_ HO_606001 hb
             replace HO_606003 := vB_ HO_606003 hb
             replace BK605 := bB_ BK605 hb
             replace BK622 := bB_ BK622 hb
             replace HB := Aside0.mk (below_step m_16 hb)
             (try clear hb); (try clear hb2); (try clear hk); (try clear hi); (try clear ho0); (try clear ho1)
             obtain ⟨Ao41, co41, eo41⟩ := Kd.V_slice HO_606001.out
             (first | subst eo41 | (injection eo41 with f1_ f2_ f3_; have f4_ := f1_.symm; have f5_ := f3_.symm; clear f1_ f2_ f3_; subst f4_; subst f5_))
             obtain ⟨Ao42, co42, eo42⟩ := Kd.V_slice HO_606003.out
             (first | subst eo42 | (injection eo42 with f1_ f2_ f3_; have f4_ := f1_.symm; have f5_ := f3_.symm; clear f1_ f2_ f3_; subst f4_; subst f5_))
             obtain ⟨Ao43, co43, eo43⟩ := Kd.V_slice HO626.out
             (first | subst eo43 | (injection eo43 with f1_ f2_ f3_; have f4_ := f1_.symm; have f5_ := f3_.symm; clear f1_ f2_ f3_; subst f4_; subst f5_))
             obtain ⟨Ao44, co44, eo44⟩ := Kd.V_slice HO630.out
             (first | subst eo44 | (injection eo44 with f1_ f2_ f3_; have f4_ := f1_.symm; have f5_ := f3_.symm; clear f1_ f2_ f3_; subst f4_; subst f5_))
             refine nx_ ⟨(blk_cell BK605.out 0).trans rfl, (blk_cell BK605.out 1).trans rfl, (blk_cell BK605.out 2).trans rfl, (blk_cell BK605.out 3).trans rfl, (blk_cell BK622.out 0).trans rfl, (blk_cell BK622.out 1).trans rfl⟩ (fun hHeld => ?_)
             refine cB_1 6 Try.func78 (args := #[.agg #[.bool x606000_2, .slice Ao41 x606001_2.length co41, .bool x606002_2, .slice Ao42 x606003_2.length co42], .agg #[.bool t623, .slice Ao43 t624.length co43, .bool t627, .slice Ao44 t628.length co44]]) ?_
             with_reducible refine (frac_Min.calls x606000_2 _ _ x606001_2 x606002_2 _ _ x606003_2 t623 _ _ t624 t627 _ _ t628 t631 t632 t635 t636 _ ?side1 ?side2 ?side3 ?side4 ?side5 ?side6 ?side7 ?side8 A31.out).mono ?_
             (case side1 => exact cA_ (Kd.V_reads' HO_606001.out).2.2)
             (case side2 => exact (Kd.V_reads' HO_606001.out).2.1)
             (case side3 => exact cA_ (Kd.V_reads' HO_606003.out).2.2)
             (case side4 => exact (Kd.V_reads' HO_606003.out).2.1)
             (case side5 => exact cA_ (Kd.V_reads' HO626.out).2.2)
             (case side6 => exact (Kd.V_reads' HO626.out).2.1)
             (case side7 => exact cA_ (Kd.V_reads' HO630.out).2.2)
             (case side8 => exact (Kd.V_reads' HO630.out).2.1)
             rintro e w45 ⟨v633, v637, rfl, ho0, ho1, hb⟩
             refine ⟨_, rfl, ?_⟩
             have HO634 := Aside0.mk (Kd.V_lower (Kd.V_mono (ok' := fun k_ => ((P1_1_ k_ ∨ P1_3_ k_) ∨ w.heap.size ≤ k_) ∧ some k_ ≠ (v619 : Value).ownBlock ∧ k_ ≠ gb605 ∧ k_ ≠ gb622) ho0 (fun k_ hk_ => ⟨(.inr (Nat.le_trans (below_size m_16) hk_)), (Kd.fresh' (Kd.N_lt m_52) k_ hk_), (Kd.freshB (bA_ BK605.out) k_ hk_), (Kd.freshB (bA_ BK622.out) k_ hk_)⟩)) (below_size m_16))
             have HO638 := Aside0.mk (Kd.V_lower (Kd.V_mono (ok' := fun k_ => ((P1_1_ k_ ∨ P1_3_ k_) ∨ w.heap.size ≤ k_) ∧ some k_ ≠ (v619 : Value).ownBlock ∧ k_ ≠ gb605 ∧ k_ ≠ gb622) ho1 (fun k_ hk_ => ⟨(.inr (Nat.le_trans (below_size m_16) hk_)), (Kd.fresh' (Kd.N_lt m_52) k_ hk_), (Kd.freshB (bA_ BK605.out) k_ hk_), (Kd.freshB (bA_ BK622.out) k_ hk_)⟩)) (below_size m_16))
             replace HO_7 := Aside0.mk (Kd.N_below m_52 hb)
             replace HO_606001 := vB_ HO_606001 hb
             replace HO_606003 := vB_ HO_606003 hb
             replace HO626 := vB_ HO626 hb
             replace HO630 := vB_ HO630 hb
             replace BK605 := bB_ BK605 hb
             replace BK622 := bB_ BK622 hb
             replace HB := Aside0.mk (below_step m_16 hb)
             (try clear hb); (try clear hb2); (try clear hk); (try clear hi); (try clear ho0); (try clear ho1)
             have p33 : 0 ≤ (x31_2 : Int) := of_decide_eq_true m_4
             have q33 : (x31_2 : Int) < ((x7_2.length : Int) : Int) := of_decide_eq_true m_4
             obtain ⟨go33, co33, eo33, gb33, gl33, cl33, HG33⟩ := Kd.N_form HO_7.out (by omega)
             (first | cases eo33 | (injection eo33 with ea_ en_ ec_; (first | subst ea_ | (injection ea_ with ea_; subst ea_)); subst ec_; clear en_))
             have GB33 := Aside0.mk gb33
             clear gb33 gl33 HG33
             obtain ⟨ce33, hcl33, hM33, hcc33, hfr33⟩ := Kd.N_elem HO_7.out z66 (x31_2 : Int) p33 q33
             obtain ⟨ua33_1, uc33_1, ua33_3, uc33_3, rfl, ul33_1, ge33_1, ul33_3, ge33_3⟩ := k66_openF hM33
             have hx33_0 : World.cell? _ ⟨go33, (x31_2 : Int).toNat * 4, none⟩ = some (.bool ((rd_T66 x7_2 x31_2).f0.f0)) := hcc33 0 _ rfl
             have hx33_1 : World.cell? _ ⟨go33, (x31_2 : Int).toNat * 4 + 1, none⟩ = some (.slice ua33_1 ((rd_T66 x7_2 x31_2).f0.f1).length uc33_1) := hcc33 1 _ rfl
             have hx33_2 : World.cell? _ ⟨go33, (x31_2 : Int).toNat * 4 + 2, none⟩ = some (.bool ((rd_T66 x7_2 x31_2).f1.f0)) := hcc33 2 _ rfl
             have hx33_3 : World.cell? _ ⟨go33, (x31_2 : Int).toNat * 4 + 3, none⟩ = some (.slice ua33_3 ((rd_T66 x7_2 x31_2).f1.f1).length uc33_3) := hcc33 3 _ rfl
             have hf33_0 : World.frozen? _ ⟨go33, (x31_2 : Int).toNat * 4, none⟩ = false := hfr33 0
             have hf33_1 : World.frozen? _ ⟨go33, (x31_2 : Int).toNat * 4 + 1, none⟩ = false := hfr33 1
             have hf33_2 : World.frozen? _ ⟨go33, (x31_2 : Int).toNat * 4 + 2, none⟩ = false := hfr33 2
             have hf33_3 : World.frozen? _ ⟨go33, (x31_2 : Int).toNat * 4 + 3, none⟩ = false := hfr33 3
             clear hcl33 hcc33 hfr33 hM33
             replace q33 := eq_true q33
             have HX46 := Aside0.mk (show Kd.N k66 66 _ w.heap.size (fun k_ => ((P1_1_ k_ ∨ P1_3_ k_) ∨ w.heap.size ≤ k_) ∧ k_ ≠ gb605 ∧ k_ ≠ gb622) (.slice (some ⟨go33, 0, none⟩) x7_2.length co33) x7_2 from (Kd.N_mono (HO_7.out) (fun k_ hk => ⟨hk.1, ⟨hk.2.1, hk.2.2⟩⟩)))
             obtain ⟨ce46, hcl46, hM46, hcc46, hfr46⟩ := Kd.N_elem HX46.out z66 (x31_2 : Int) (of_decide_eq_true m_4) m_132
             obtain ⟨ua46_1, uc46_1, ua46_3, uc46_3, rfl, ul46_1, ge46_1, ul46_3, ge46_3⟩ := k66_openF hM46
             obtain ⟨Az634, cz634, ez634⟩ := Kd.V_slice HO634.out
             subst ez634
             obtain ⟨Az638, cz638, ez638⟩ := Kd.V_slice HO638.out
             subst ez638
             have HP46 := (Kd.N_seg HX46.out (x31_2 : Int) (of_decide_eq_true m_4) m_132 (seg := [.bool t631, (.slice Az634 t632.length cz634), .bool t635, (.slice Az638 t636.length cz638)]) (j := 0) hcl46 hcc46 (show 4 ≤ 4 from by decide) (x' := (⟨(⟨t631, t632⟩ : S64), (⟨t635, t636⟩ : S64)⟩ : S66)) (k66_mkF _ _ (⟨(⟨t631, t632⟩ : S64), (⟨t635, t636⟩ : S64)⟩ : S66) (Kd.V_reads' (Kd.V_mono (ok' := (fun k_ => ((fun k_ => ((P1_1_ k_ ∨ P1_3_ k_) ∨ w.heap.size ≤ k_) ∧ k_ ≠ gb605 ∧ k_ ≠ gb622)) k_ ∧ k_ ≠ go33)) (HO634.out) (fun k_ hk => ⟨⟨hk.1, ⟨hk.2.2.1, hk.2.2.2⟩⟩, fun e_ => (hk.2.1) (by rw [e_]; rfl)⟩))).2.1 (Kd.V_F (Kd.V_mono (ok' := (fun k_ => ((fun k_ => ((P1_1_ k_ ∨ P1_3_ k_) ∨ w.heap.size ≤ k_) ∧ k_ ≠ gb605 ∧ k_ ≠ gb622)) k_ ∧ k_ ≠ go33)) (HO634.out) (fun k_ hk => ⟨⟨hk.1, ⟨hk.2.2.1, hk.2.2.2⟩⟩, fun e_ => (hk.2.1) (by rw [e_]; rfl)⟩))) (Kd.V_reads' (Kd.V_mono (ok' := (fun k_ => ((fun k_ => ((P1_1_ k_ ∨ P1_3_ k_) ∨ w.heap.size ≤ k_) ∧ k_ ≠ gb605 ∧ k_ ≠ gb622)) k_ ∧ k_ ≠ go33)) (HO638.out) (fun k_ hk => ⟨⟨hk.1, ⟨hk.2.2.1, hk.2.2.2⟩⟩, fun e_ => (hk.2.1) (by rw [e_]; rfl)⟩))).2.1 (Kd.V_F (Kd.V_mono (ok' := (fun k_ => ((fun k_ => ((P1_1_ k_ ∨ P1_3_ k_) ∨ w.heap.size ≤ k_) ∧ k_ ≠ gb605 ∧ k_ ≠ gb622)) k_ ∧ k_ ≠ go33)) (HO638.out) (fun k_ hk => ⟨⟨hk.1, ⟨hk.2.2.1, hk.2.2.2⟩⟩, fun e_ => (hk.2.1) (by rw [e_]; rfl)⟩)))) (fun _ hk => hk)).1
             rw [← Ny639.out] at HP46
             have HQ46 := Aside0.mk HP46
             clear hcl46 hcc46 hfr46 hM46 HP46
             refine nx_ ⟨(blk_cell BK605.out 0).trans rfl, (blk_cell BK605.out 1).trans rfl, (blk_cell BK605.out 2).trans rfl, (blk_cell BK605.out 3).trans rfl, (blk_cell BK622.out 0).trans rfl, (blk_cell BK622.out 1).trans rfl⟩ (fun hHeld => ?_)
             refine pA_ 7 HT_.out ?_
             refine last_ (i := 8) (N := none) #[true, true, true, true, true, true, true, true, true] rfl rfl (one_of HT_.out m_13) (by decide) (fun K hK => ?_)
             refine skip_ (w1 := ?_) (by rfl) rfl ?_ ?_
             rotate_left
             ·go_simp
              rfl
             refine hK.out _ _ ?_
             clear hK K
             refine done_ (done_of HT_.out m_13) ?_
             have n0_ : Aside0 (Kd.N k66 66 ((((w45.setCell ⟨go33, (x31_2 : Int).toNat * 4, none⟩ (.bool t631)).setCell ⟨go33, (x31_2 : Int).toNat * 4 + 1, none⟩ ((.slice Az634 t632.length cz634))).setCell ⟨go33, (x31_2 : Int).toNat * 4 + 2, none⟩ (.bool t635)).setCell ⟨go33, (x31_2 : Int).toNat * 4 + 3, none⟩ ((.slice Az638 t636.length cz638))) w.heap.size (fun k_ => ((P1_1_ k_ ∨ P1_3_ k_) ∨ w.heap.size ≤ k_) ∧ k_ ≠ gb605 ∧ k_ ≠ gb622) (.slice (some ⟨go33, 0, none⟩) x7_2.length co33) y639) := ⟨(by (with_reducible repeat (first | apply Kd.N_alloc | apply Kd.N_drewN | apply Kd.N_drew)); exact HQ46.out)⟩
             have n1_ : Aside0 (Kd.V (Kd.int .u32) 117 ((((w45.setCell ⟨go33, (x31_2 : Int).toNat * 4, none⟩ (.bool t631)).setCell ⟨go33, (x31_2 : Int).toNat * 4 + 1, none⟩ ((.slice Az634 t632.length cz634))).setCell ⟨go33, (x31_2 : Int).toNat * 4 + 2, none⟩ (.bool t635)).setCell ⟨go33, (x31_2 : Int).toNat * 4 + 3, none⟩ ((.slice Az638 t636.length cz638))) w.heap.size (fun k_ => ((P1_1_ k_ ∨ P1_3_ k_) ∨ w.heap.size ≤ k_) ∧ some k_ ≠ (.slice (some ⟨go33, 0, none⟩) x7_2.length co33 : Value).ownBlock ∧ k_ ≠ gb605 ∧ k_ ≠ gb622) (.slice Ao41 x606001_2.length co41) x606001_2) := ⟨(by (with_reducible repeat (first | apply Kd.V_alloc | apply Kd.V_drewN | apply Kd.V_drew)); exact Kd.V_mono (Kd.V_far (p := ⟨go33, (x31_2 : Int).toNat * 4 + 3, none⟩) (Kd.V_far (p := ⟨go33, (x31_2 : Int).toNat * 4 + 2, none⟩) (Kd.V_far (p := ⟨go33, (x31_2 : Int).toNat * 4 + 1, none⟩) (Kd.V_far (p := ⟨go33, (x31_2 : Int).toNat * 4, none⟩) (Kd.V_mono HO_606001.out (fun k_ hk => (⟨hk, fun e_ => hk.2.1 (by rw [e_]; rfl)⟩ : _ ∧ k_ ≠ go33))) (fun _ hk => hk.2) (.bool t631)) (fun _ hk => hk.2) ((.slice Az634 t632.length cz634))) (fun _ hk => hk.2) (.bool t635)) (fun _ hk => hk.2) ((.slice Az638 t636.length cz638))) (fun _ hk => ⟨hk.1.1, ⟨hk.1.2.1, ⟨hk.1.2.2.1, hk.1.2.2.2⟩⟩⟩))⟩
             have n2_ : Aside0 (Kd.V (Kd.int .u32) 117 ((((w45.setCell ⟨go33, (x31_2 : Int).toNat * 4, none⟩ (.bool t631)).setCell ⟨go33, (x31_2 : Int).toNat * 4 + 1, none⟩ ((.slice Az634 t632.length cz634))).setCell ⟨go33, (x31_2 : Int).toNat * 4 + 2, none⟩ (.bool t635)).setCell ⟨go33, (x31_2 : Int).toNat * 4 + 3, none⟩ ((.slice Az638 t636.length cz638))) w.heap.size (fun k_ => ((P1_1_ k_ ∨ P1_3_ k_) ∨ w.heap.size ≤ k_) ∧ some k_ ≠ (.slice (some ⟨go33, 0, none⟩) x7_2.length co33 : Value).ownBlock ∧ k_ ≠ gb605 ∧ k_ ≠ gb622) (.slice Ao42 x606003_2.length co42) x606003_2) := ⟨(by (with_reducible repeat (first | apply Kd.V_alloc | apply Kd.V_drewN | apply Kd.V_drew)); exact Kd.V_mono (Kd.V_far (p := ⟨go33, (x31_2 : Int).toNat * 4 + 3, none⟩) (Kd.V_far (p := ⟨go33, (x31_2 : Int).toNat * 4 + 2, none⟩) (Kd.V_far (p := ⟨go33, (x31_2 : Int).toNat * 4 + 1, none⟩) (Kd.V_far (p := ⟨go33, (x31_2 : Int).toNat * 4, none⟩) (Kd.V_mono HO_606003.out (fun k_ hk => (⟨hk, fun e_ => hk.2.1 (by rw [e_]; rfl)⟩ : _ ∧ k_ ≠ go33))) (fun _ hk => hk.2) (.bool t631)) (fun _ hk => hk.2) ((.slice Az634 t632.length cz634))) (fun _ hk => hk.2) (.bool t635)) (fun _ hk => hk.2) ((.slice Az638 t636.length cz638))) (fun _ hk => ⟨hk.1.1, ⟨hk.1.2.1, ⟨hk.1.2.2.1, hk.1.2.2.2⟩⟩⟩))⟩
             have n3_ : Aside0 (Kd.V (Kd.int .u32) 117 ((((w45.setCell ⟨go33, (x31_2 : Int).toNat * 4, none⟩ (.bool t631)).setCell ⟨go33, (x31_2 : Int).toNat * 4 + 1, none⟩ ((.slice Az634 t632.length cz634))).setCell ⟨go33, (x31_2 : Int).toNat * 4 + 2, none⟩ (.bool t635)).setCell ⟨go33, (x31_2 : Int).toNat * 4 + 3, none⟩ ((.slice Az638 t636.length cz638))) w.heap.size (fun k_ => ((P1_1_ k_ ∨ P1_3_ k_) ∨ w.heap.size ≤ k_) ∧ some k_ ≠ (.slice (some ⟨go33, 0, none⟩) x7_2.length co33 : Value).ownBlock ∧ k_ ≠ gb605 ∧ k_ ≠ gb622) (.slice Ao43 t624.length co43) t624) := ⟨(by (with_reducible repeat (first | apply Kd.V_alloc | apply Kd.V_drewN | apply Kd.V_drew)); exact Kd.V_mono (Kd.V_far (p := ⟨go33, (x31_2 : Int).toNat * 4 + 3, none⟩) (Kd.V_far (p := ⟨go33, (x31_2 : Int).toNat * 4 + 2, none⟩) (Kd.V_far (p := ⟨go33, (x31_2 : Int).toNat * 4 + 1, none⟩) (Kd.V_far (p := ⟨go33, (x31_2 : Int).toNat * 4, none⟩) (Kd.V_mono HO626.out (fun k_ hk => (⟨hk, fun e_ => hk.2.1 (by rw [e_]; rfl)⟩ : _ ∧ k_ ≠ go33))) (fun _ hk => hk.2) (.bool t631)) (fun _ hk => hk.2) ((.slice Az634 t632.length cz634))) (fun _ hk => hk.2) (.bool t635)) (fun _ hk => hk.2) ((.slice Az638 t636.length cz638))) (fun _ hk => ⟨hk.1.1, ⟨hk.1.2.1, ⟨hk.1.2.2.1, hk.1.2.2.2⟩⟩⟩))⟩
             have n4_ : Aside0 (Kd.V (Kd.int .u32) 117 ((((w45.setCell ⟨go33, (x31_2 : Int).toNat * 4, none⟩ (.bool t631)).setCell ⟨go33, (x31_2 : Int).toNat * 4 + 1, none⟩ ((.slice Az634 t632.length cz634))).setCell ⟨go33, (x31_2 : Int).toNat * 4 + 2, none⟩ (.bool t635)).setCell ⟨go33, (x31_2 : Int).toNat * 4 + 3, none⟩ ((.slice Az638 t636.length cz638))) w.heap.size (fun k_ => ((P1_1_ k_ ∨ P1_3_ k_) ∨ w.heap.size ≤ k_) ∧ some k_ ≠ (.slice (some ⟨go33, 0, none⟩) x7_2.length co33 : Value).ownBlock ∧ k_ ≠ gb605 ∧ k_ ≠ gb622) (.slice Ao44 t628.length co44) t628) := ⟨(by (with_reducible repeat (first | apply Kd.V_alloc | apply Kd.V_drewN | apply Kd.V_drew)); exact Kd.V_mono (Kd.V_far (p := ⟨go33, (x31_2 : Int).toNat * 4 + 3, none⟩) (Kd.V_far (p := ⟨go33, (x31_2 : Int).toNat * 4 + 2, none⟩) (Kd.V_far (p := ⟨go33, (x31_2 : Int).toNat * 4 + 1, none⟩) (Kd.V_far (p := ⟨go33, (x31_2 : Int).toNat * 4, none⟩) (Kd.V_mono HO630.out (fun k_ hk => (⟨hk, fun e_ => hk.2.1 (by rw [e_]; rfl)⟩ : _ ∧ k_ ≠ go33))) (fun _ hk => hk.2) (.bool t631)) (fun _ hk => hk.2) ((.slice Az634 t632.length cz634))) (fun _ hk => hk.2) (.bool t635)) (fun _ hk => hk.2) ((.slice Az638 t636.length cz638))) (fun _ hk => ⟨hk.1.1, ⟨hk.1.2.1, ⟨hk.1.2.2.1, hk.1.2.2.2⟩⟩⟩))⟩
             have n5_ : Aside0 (Kd.V (Kd.int .u32) 117 ((((w45.setCell ⟨go33, (x31_2 : Int).toNat * 4, none⟩ (.bool t631)).setCell ⟨go33, (x31_2 : Int).toNat * 4 + 1, none⟩ ((.slice Az634 t632.length cz634))).setCell ⟨go33, (x31_2 : Int).toNat * 4 + 2, none⟩ (.bool t635)).setCell ⟨go33, (x31_2 : Int).toNat * 4 + 3, none⟩ ((.slice Az638 t636.length cz638))) w.heap.size (fun k_ => ((P1_1_ k_ ∨ P1_3_ k_) ∨ w.heap.size ≤ k_) ∧ some k_ ≠ (.slice (some ⟨go33, 0, none⟩) x7_2.length co33 : Value).ownBlock ∧ k_ ≠ gb605 ∧ k_ ≠ gb622) (.slice Az634 t632.length cz634) t632) := ⟨(by (with_reducible repeat (first | apply Kd.V_alloc | apply Kd.V_drewN | apply Kd.V_drew)); exact Kd.V_mono (Kd.V_far (p := ⟨go33, (x31_2 : Int).toNat * 4 + 3, none⟩) (Kd.V_far (p := ⟨go33, (x31_2 : Int).toNat * 4 + 2, none⟩) (Kd.V_far (p := ⟨go33, (x31_2 : Int).toNat * 4 + 1, none⟩) (Kd.V_far (p := ⟨go33, (x31_2 : Int).toNat * 4, none⟩) (Kd.V_mono HO634.out (fun k_ hk => (⟨hk, fun e_ => hk.2.1 (by rw [e_]; rfl)⟩ : _ ∧ k_ ≠ go33))) (fun _ hk => hk.2) (.bool t631)) (fun _ hk => hk.2) ((.slice Az634 t632.length cz634))) (fun _ hk => hk.2) (.bool t635)) (fun _ hk => hk.2) ((.slice Az638 t636.length cz638))) (fun _ hk => ⟨hk.1.1, ⟨hk.1.2.1, ⟨hk.1.2.2.1, hk.1.2.2.2⟩⟩⟩))⟩
             have n6_ : Aside0 (Kd.V (Kd.int .u32) 117 ((((w45.setCell ⟨go33, (x31_2 : Int).toNat * 4, none⟩ (.bool t631)).setCell ⟨go33, (x31_2 : Int).toNat * 4 + 1, none⟩ ((.slice Az634 t632.length cz634))).setCell ⟨go33, (x31_2 : Int).toNat * 4 + 2, none⟩ (.bool t635)).setCell ⟨go33, (x31_2 : Int).toNat * 4 + 3, none⟩ ((.slice Az638 t636.length cz638))) w.heap.size (fun k_ => ((P1_1_ k_ ∨ P1_3_ k_) ∨ w.heap.size ≤ k_) ∧ some k_ ≠ (.slice (some ⟨go33, 0, none⟩) x7_2.length co33 : Value).ownBlock ∧ k_ ≠ gb605 ∧ k_ ≠ gb622) (.slice Az638 t636.length cz638) t636) := ⟨(by (with_reducible repeat (first | apply Kd.V_alloc | apply Kd.V_drewN | apply Kd.V_drew)); exact Kd.V_mono (Kd.V_far (p := ⟨go33, (x31_2 : Int).toNat * 4 + 3, none⟩) (Kd.V_far (p := ⟨go33, (x31_2 : Int).toNat * 4 + 2, none⟩) (Kd.V_far (p := ⟨go33, (x31_2 : Int).toNat * 4 + 1, none⟩) (Kd.V_far (p := ⟨go33, (x31_2 : Int).toNat * 4, none⟩) (Kd.V_mono HO638.out (fun k_ hk => (⟨hk, fun e_ => hk.2.1 (by rw [e_]; rfl)⟩ : _ ∧ k_ ≠ go33))) (fun _ hk => hk.2) (.bool t631)) (fun _ hk => hk.2) ((.slice Az634 t632.length cz634))) (fun _ hk => hk.2) (.bool t635)) (fun _ hk => hk.2) ((.slice Az638 t636.length cz638))) (fun _ hk => ⟨hk.1.1, ⟨hk.1.2.1, ⟨hk.1.2.2.1, hk.1.2.2.2⟩⟩⟩))⟩
             have n7_ : Aside0 (((((w45.setCell ⟨go33, (x31_2 : Int).toNat * 4, none⟩ (.bool t631)).setCell ⟨go33, (x31_2 : Int).toNat * 4 + 1, none⟩ ((.slice Az634 t632.length cz634))).setCell ⟨go33, (x31_2 : Int).toNat * 4 + 2, none⟩ (.bool t635)).setCell ⟨go33, (x31_2 : Int).toNat * 4 + 3, none⟩ ((.slice Az638 t636.length cz638))).heap[gb605]? = some (.cells #[.bool x606000_2, .slice Ao41 x606001_2.length co41, .bool x606002_2, .slice Ao42 x606003_2.length co42] 66 (0, 0))) := ⟨(by (with_reducible repeat (first | refine blk_drewN ?_ _ | refine blk_drew ?_ | refine blk_alloc ?_ _)); refine blk_far ?_ m_118 _; (with_reducible repeat (first | refine blk_drewN ?_ _ | refine blk_drew ?_ | refine blk_alloc ?_ _)); refine blk_far ?_ m_118 _; (with_reducible repeat (first | refine blk_drewN ?_ _ | refine blk_drew ?_ | refine blk_alloc ?_ _)); refine blk_far ?_ m_118 _; (with_reducible repeat (first | refine blk_drewN ?_ _ | refine blk_drew ?_ | refine blk_alloc ?_ _)); refine blk_far ?_ m_118 _; (with_reducible repeat (first | refine blk_drewN ?_ _ | refine blk_drew ?_ | refine blk_alloc ?_ _)); exact BK605.out)⟩
             have n8_ : Aside0 (((((w45.setCell ⟨go33, (x31_2 : Int).toNat * 4, none⟩ (.bool t631)).setCell ⟨go33, (x31_2 : Int).toNat * 4 + 1, none⟩ ((.slice Az634 t632.length cz634))).setCell ⟨go33, (x31_2 : Int).toNat * 4 + 2, none⟩ (.bool t635)).setCell ⟨go33, (x31_2 : Int).toNat * 4 + 3, none⟩ ((.slice Az638 t636.length cz638))).heap[gb622]? = some (.cells #[.int .i64 ((rd_T99 l0 x31_2).f0), .int .i64 ((rd_T99 l0 x31_2).f1)] 99 (0, 0))) := ⟨(by (with_reducible repeat (first | refine blk_drewN ?_ _ | refine blk_drew ?_ | refine blk_alloc ?_ _)); refine blk_far ?_ m_117 _; (with_reducible repeat (first | refine blk_drewN ?_ _ | refine blk_drew ?_ | refine blk_alloc ?_ _)); refine blk_far ?_ m_117 _; (with_reducible repeat (first | refine blk_drewN ?_ _ | refine blk_drew ?_ | refine blk_alloc ?_ _)); refine blk_far ?_ m_117 _; (with_reducible repeat (first | refine blk_drewN ?_ _ | refine blk_drew ?_ | refine blk_alloc ?_ _)); refine blk_far ?_ m_117 _; (with_reducible repeat (first | refine blk_drewN ?_ _ | refine blk_drew ?_ | refine blk_alloc ?_ _)); exact BK622.out)⟩
             have n9_ : Aside0 (Below w.heap.size w ((((w45.setCell ⟨go33, (x31_2 : Int).toNat * 4, none⟩ (.bool t631)).setCell ⟨go33, (x31_2 : Int).toNat * 4 + 1, none⟩ ((.slice Az634 t632.length cz634))).setCell ⟨go33, (x31_2 : Int).toNat * 4 + 2, none⟩ (.bool t635)).setCell ⟨go33, (x31_2 : Int).toNat * 4 + 3, none⟩ ((.slice Az638 t636.length cz638)))) := ⟨(by repeat (first | (with_reducible first | exact HB.out | apply below_alloc | apply pw_below_drewN | apply below_drew1 | refine below_set ?_ GB33.out | refine below_set ?_ GB33.out | refine below_set ?_ GB33.out | refine below_set ?_ GB33.out | refine below_set ?_ GE605.out | refine below_set ?_ GE622.out) | exact HB.out))⟩
             (try clear HO_7); (try clear HO_606001); (try clear HO_606003); (try clear HO626); (try clear HO630); (try clear HO634); (try clear HO638); (try clear BK605); (try clear BK622); (try clear HB)
             generalize ((((w45.setCell ⟨go33, (x31_2 : Int).toNat * 4, none⟩ (.bool t631)).setCell ⟨go33, (x31_2 : Int).toNat * 4 + 1, none⟩ ((.slice Az634 t632.length cz634))).setCell ⟨go33, (x31_2 : Int).toNat * 4 + 2, none⟩ (.bool t635)).setCell ⟨go33, (x31_2 : Int).toNat * 4 + 3, none⟩ ((.slice Az638 t636.length cz638))) = w47 at n0_ n1_ n2_ n3_ n4_ n5_ n6_ n7_ n8_ n9_ ⊢
             have HO_7 := n0_
             have HO_606001 := n1_
             have HO_606003 := n2_
             have BK605 := n7_
             have BK622 := n8_
             have HB := n9_
             clear n0_ n1_ n2_ n3_ n4_ n5_ n6_ n7_ n8_ n9_
             try go_wp2
             replace HO_7 := Aside0.mk (Kd.N_drew HO_7.out)
             replace HO_606001 := vD_ HO_606001
             replace HO_606003 := vD_ HO_606003
             replace BK605 := bD_ BK605
             replace BK622 := bD_ BK622
             replace HB := Aside0.mk (below_drew1 HB.out)
             have p640 : 0 ≤ (x31_2 : Int) := of_decide_eq_true m_4
             have q640 : x31_2 < (y639.length : Int) := (by have h_ : (x31_2 : Int) < ((x7_2.length : Int) : Int) := of_decide_eq_true m_4; first | (have e_ := (Kd.N_reads' HO_7.out).1; omega) | simpa only [Ny639.out, List.length_set] using h_)
             obtain ⟨ad640, A640_1, c640_1, A640_3, c640_3, e640, hx640_0, hx640_1, hx640_2, hx640_3, hl640_1, hi640_1, hl640_3, hi640_3⟩ := at_T66 (Kd.N_reads' HO_7.out).2.2 x31_2 p640 q640
             obtain rfl : (⟨go33, 0, none⟩ : Addr) = ad640 := (by injection e640)
             obtain ⟨ce640, hce640, hMe640, hcc640⟩ := Kd.N_get HO_7.out z66 x31_2 p640 (by first | exact q640 | exact of_decide_eq_true m_4 | (have e_ := (Kd.N_reads' HO_7.out).1; omega))
             obtain ⟨ua640_1, uc640_1, ua640_3, uc640_3, rfl, ul640_1, ge640_1, ul640_3, ge640_3⟩ := k66_openF hMe640
             have hv640_1 := hcc640 1 _ rfl
             rw [add_field _ _ 1 (by omega)] at hv640_1
             replace hv640_1 := Option.some.inj (hv640_1.symm.trans hx640_1)
             injection hv640_1 with hva_ hvn_ hvc_
             rw [hva_] at ge640_1
             rw [hvc_] at ul640_1
             clear hva_ hvn_ hvc_ ge640_1 ul640_1
             have hv640_3 := hcc640 3 _ rfl
             rw [add_field _ _ 3 (by omega)] at hv640_3
             replace hv640_3 := Option.some.inj (hv640_3.symm.trans hx640_3)
             injection hv640_3 with hva_ hvn_ hvc_
             rw [hva_] at ge640_3
             rw [hvc_] at ul640_3
             clear hva_ hvn_ hvc_ ge640_3 ul640_3
             clear hcc640 hce640
             (first | simp only [add_plain] at hx640_0 | simp only [add_at] at hx640_0 | simp only [Addr.add, Nat.zero_add] at hx640_0 | skip)
             (first | simp only [add_plain] at hx640_1 | simp only [add_at] at hx640_1 | simp only [Addr.add, Nat.zero_add] at hx640_1 | skip)
             (first | simp only [add_plain] at hx640_2 | simp only [add_at] at hx640_2 | simp only [Addr.add, Nat.zero_add] at hx640_2 | skip)
             (first | simp only [add_plain] at hx640_3 | simp only [add_at] at hx640_3 | simp only [Addr.add, Nat.zero_add] at hx640_3 | skip)
             have HR640_1 := Aside0.mk hi640_1
             have HC640_1 := Aside0.mk hl640_1
             clear hi640_1 hl640_1
             have HR640_3 := Aside0.mk hi640_3
             have HC640_3 := Aside0.mk hl640_3
             clear hi640_3 hl640_3
             refine start_ (n := 7) (S := fun w' => w'.cell? ⟨gb605, 0, none⟩ = some (.bool x606000_2) ∧ w'.cell? ⟨gb605, 1, none⟩ = some (.slice Ao41 x606001_2.length co41) ∧ w'.cell? ⟨gb605, 2, none⟩ = some (.bool x606002_2) ∧ w'.cell? ⟨gb605, 3, none⟩ = some (.slice Ao42 x606003_2.length co42) ∧ w'.cell? ⟨go33, (x31_2).toNat * 4, none⟩ = some (.bool ((rd_T66 y639 x31_2).f0.f0)) ∧ w'.cell? ⟨go33, (x31_2).toNat * 4 + 1, none⟩ = some (.slice A640_1 ((rd_T66 y639 x31_2).f0.f1).length c640_1) ∧ w'.cell? ⟨go33, (x31_2).toNat * 4 + 2, none⟩ = some (.bool ((rd_T66 y639 x31_2).f1.f0)) ∧ w'.cell? ⟨go33, (x31_2).toNat * 4 + 3, none⟩ = some (.slice A640_3 ((rd_T66 y639 x31_2).f1.f1).length c640_3)) (ds := [6]) #[false, false, false, false, false, false, false] m_13 rfl rfl ⟨(blk_cell BK605.out 0).trans rfl, (blk_cell BK605.out 1).trans rfl, (blk_cell BK605.out 2).trans rfl, (blk_cell BK605.out 3).trans rfl, hx640_0, hx640_1, hx640_2, hx640_3⟩ (fun hHeld => ?_)
             generalize w47.drew = w48 at HO_7 HO_606001 HO_606003 BK605 BK622 HB HR640_1 HR640_3 hx640_0 hx640_1 hx640_2 hx640_3 hHeld ⊢
             refine pB_ 1 ?_
             refine pB_ 2 ?_
             refine pB_ 3 ?_
             refine tB_ 0 hHeld ?_
             refine tB_ 4 hHeld ?_
             refine cB_1 5 Try.func79 (args := #[.agg #[.bool x606000_2, .slice Ao41 x606001_2.length co41, .bool x606002_2, .slice Ao42 x606003_2.length co42], .agg #[.bool ((rd_T66 y639 x31_2).f0.f0), .slice A640_1 ((rd_T66 y639 x31_2).f0.f1).length c640_1, .bool ((rd_T66 y639 x31_2).f1.f0), .slice A640_3 ((rd_T66 y639 x31_2).f1.f1).length c640_3]]) ?_
             with_reducible refine (frac_Sub.calls x606000_2 _ _ x606001_2 x606002_2 _ _ x606003_2 ((rd_T66 y639 x31_2).f0.f0) _ _ ((rd_T66 y639 x31_2).f0.f1) ((rd_T66 y639 x31_2).f1.f0) _ _ ((rd_T66 y639 x31_2).f1.f1) t641 t642 t645 t646 _ ?side1 ?side2 ?side3 ?side4 ?side5 ?side6 ?side7 ?side8 A34.out).mono ?_
             (case side1 => exact cA_ (Kd.V_reads' HO_606001.out).2.2)
             (case side2 => exact (Kd.V_reads' HO_606001.out).2.1)
             (case side3 => exact cA_ (Kd.V_reads' HO_606003.out).2.2)
             (case side4 => exact (Kd.V_reads' HO_606003.out).2.1)
             (case side5 => exact (by repeat (first | exact m_128 | (with_reducible refine Kd.C_alloc ?_ _) | (with_reducible refine Kd.C_drewN ?_ _) | (with_reducible refine Kd.C_drew ?_))))
             (case side6 => exact HC640_1.out)
             (case side7 => exact (by repeat (first | exact m_127 | (with_reducible refine Kd.C_alloc ?_ _) | (with_reducible refine Kd.C_drewN ?_ _) | (with_reducible refine Kd.C_drew ?_))))
             (case side8 => exact HC640_3.out)
             rintro e w49 ⟨v643, v647, rfl, ho0, ho1, hb⟩
             have HS4_ := (hb.cell (World.block_lt_of_cell? _ _ (hHeld.2.2.2.2.1))).trans (hHeld.2.2.2.2.1)
             have HS5_ := (hb.cell (World.block_lt_of_cell? _ _ (hHeld.2.2.2.2.2.1))).trans (hHeld.2.2.2.2.2.1)
             have HS6_ := (hb.cell (World.block_lt_of_cell? _ _ (hHeld.2.2.2.2.2.2.1))).trans (hHeld.2.2.2.2.2.2.1)
             have HS7_ := (hb.cell (World.block_lt_of_cell? _ _ (hHeld.2.2.2.2.2.2.2))).trans (hHeld.2.2.2.2.2.2.2)
             refine ⟨_, rfl, ?_⟩
             have HO644 := Aside0.mk (Kd.V_lower (Kd.V_mono (ok' := fun k_ => ((P1_1_ k_ ∨ P1_3_ k_) ∨ w.heap.size ≤ k_) ∧ some k_ ≠ (.slice (some ⟨go33, 0, none⟩) x7_2.length co33 : Value).ownBlock ∧ k_ ≠ gb605 ∧ k_ ≠ gb622) ho0 (fun k_ hk_ => ⟨(.inr (Nat.le_trans (below_size m_16) hk_)), (Kd.fresh' (Kd.N_lt m_52) k_ hk_), (Kd.freshB (bA_ BK605.out) k_ hk_), (Kd.freshB (bA_ BK622.out) k_ hk_)⟩)) (below_size m_16))
             have HO648 := Aside0.mk (Kd.V_lower (Kd.V_mono (ok' := fun k_ => ((P1_1_ k_ ∨ P1_3_ k_) ∨ w.heap.size ≤ k_) ∧ some k_ ≠ (.slice (some ⟨go33, 0, none⟩) x7_2.length co33 : Value).ownBlock ∧ k_ ≠ gb605 ∧ k_ ≠ gb622) ho1 (fun k_ hk_ => ⟨(.inr (Nat.le_trans (below_size m_16) hk_)), (Kd.fresh' (Kd.N_lt m_52) k_ hk_), (Kd.freshB (bA_ BK605.out) k_ hk_), (Kd.freshB (bA_ BK622.out) k_ hk_)⟩)) (below_size m_16))
             replace HO_7 := Aside0.mk (Kd.N_below m_52 hb)
             replace BK605 := bB_ BK605 hb
             replace HB := Aside0.mk (below_step m_16 hb)
             (try clear hb); (try clear hb2); (try clear hk); (try clear hi); (try clear ho0); (try clear ho1)
             obtain ⟨Ao51, co51, eo51⟩ := Kd.V_slice HO644.out
             (first | subst eo51 | (injection eo51 with f1_ f2_ f3_; have f4_ := f1_.symm; have f5_ := f3_.symm; clear f1_ f2_ f3_; subst f4_; subst f5_))
             obtain ⟨Ao54, co54, eo54⟩ := Kd.V_slice HO648.out
             (first | subst eo54 | (injection eo54 with f1_ f2_ f3_; have f4_ := f1_.symm; have f5_ := f3_.symm; clear f1_ f2_ f3_; subst f4_; subst f5_))
             refine nx_ ⟨(blk_cell BK605.out 0).trans rfl, (blk_cell BK605.out 1).trans rfl, (blk_cell BK605.out 2).trans rfl, (blk_cell BK605.out 3).trans rfl, HS4_, HS5_, HS6_, HS7_⟩ (fun hHeld => ?_)
             refine last_ (i := 6) (N := none) #[true, true, true, true, true, true, true] rfl rfl m_13 (by decide) (fun K hK => ?_)
             have hfs50 := blk_frozen BK605.out 0
             have hfs52 := blk_frozen BK605.out 1
             have hfs53 := blk_frozen BK605.out 2
             have hfs55 := blk_frozen BK605.out 3
             refine skip_ (w1 := ?_) (by rfl) rfl ?_ ?_
             rotate_left
             ·go_simp
              rfl
             refine hK.out _ _ ?_
             clear hK K
             refine done_ m_13 ?_
             try go_wp2
             go_roundg k2
             case measure => have := HJ4.out; have := HK2.out; omega
             case rel => exact ⟨(y639), (wrap64 (x31_2 + 1)), (t641), (t642), (t645), (t646), (.slice Ao51 t642.length co51), (.slice Ao54 t646.length co54), m_9, H', ⟨(by have := HJ4.out; have := HK2.out; omega)⟩, ⟨(by (with_reducible repeat (first | apply Kd.N_alloc | apply Kd.N_drewN | apply Kd.N_drew)); exact Kd.N_mono (Kd.N_far (p := ⟨gb605, 3, none⟩) (Kd.N_far (p := ⟨gb605, 2, none⟩) (Kd.N_far (p := ⟨gb605, 1, none⟩) (Kd.N_far (p := ⟨gb605, 0, none⟩) (Kd.N_mono HO_7.out (fun k_ hk => (⟨hk, hk.2.1⟩ : _ ∧ k_ ≠ gb605))) (fun _ hk => hk.2) (.bool t641)) (fun _ hk => hk.2) (.slice Ao51 t642.length co51)) (fun _ hk => hk.2) (.bool t645)) (fun _ hk => hk.2) (.slice Ao54 t646.length co54)) (fun _ hk => ⟨hk.1.1, hk.1.2.1⟩))⟩, ⟨(by (with_reducible repeat (first | apply Kd.V_alloc | apply Kd.V_drewN | apply Kd.V_drew)); exact Kd.V_mono (Kd.V_far (p := ⟨gb605, 3, none⟩) (Kd.V_far (p := ⟨gb605, 2, none⟩) (Kd.V_far (p := ⟨gb605, 1, none⟩) (Kd.V_far (p := ⟨gb605, 0, none⟩) (Kd.V_mono HO644.out (fun k_ hk => (⟨hk, hk.2.2.1⟩ : _ ∧ k_ ≠ gb605))) (fun _ hk => hk.2) (.bool t641)) (fun _ hk => hk.2) (.slice Ao51 t642.length co51)) (fun _ hk => hk.2) (.bool t645)) (fun _ hk => hk.2) (.slice Ao54 t646.length co54)) (fun _ hk => ⟨hk.1.1, ⟨hk.1.2.1, hk.1.2.2.1⟩⟩))⟩, ⟨(by (with_reducible repeat (first | apply Kd.V_alloc | apply Kd.V_drewN | apply Kd.V_drew)); exact Kd.V_mono (Kd.V_far (p := ⟨gb605, 3, none⟩) (Kd.V_far (p := ⟨gb605, 2, none⟩) (Kd.V_far (p := ⟨gb605, 1, none⟩) (Kd.V_far (p := ⟨gb605, 0, none⟩) (Kd.V_mono HO648.out (fun k_ hk => (⟨hk, hk.2.2.1⟩ : _ ∧ k_ ≠ gb605))) (fun _ hk => hk.2) (.bool t641)) (fun _ hk => hk.2) (.slice Ao51 t642.length co51)) (fun _ hk => hk.2) (.bool t645)) (fun _ hk => hk.2) (.slice Ao54 t646.length co54)) (fun _ hk => ⟨hk.1.1, ⟨hk.1.2.1, hk.1.2.2.1⟩⟩))⟩, ⟨(by (with_reducible repeat (first | refine blk_drewN ?_ _ | refine blk_drew ?_ | refine blk_alloc ?_ _)); refine blk_put (cs := #[.bool t641, .slice Ao51 t642.length co51, .bool t645, .slice Ao42 x606003_2.length co42]) ?_ 3 _ rfl; (with_reducible repeat (first | refine blk_drewN ?_ _ | refine blk_drew ?_ | refine blk_alloc ?_ _)); refine blk_put (cs := #[.bool t641, .slice Ao51 t642.length co51, .bool x606002_2, .slice Ao42 x606003_2.length co42]) ?_ 2 _ rfl; (with_reducible repeat (first | refine blk_drewN ?_ _ | refine blk_drew ?_ | refine blk_alloc ?_ _)); refine blk_put (cs := #[.bool t641, .slice Ao41 x606001_2.length co41, .bool x606002_2, .slice Ao42 x606003_2.length co42]) ?_ 1 _ rfl; (with_reducible repeat (first | refine blk_drewN ?_ _ | refine blk_drew ?_ | refine blk_alloc ?_ _)); refine blk_put (cs := #[.bool x606000_2, .slice Ao41 x606001_2.length co41, .bool x606002_2, .slice Ao42 x606003_2.length co42]) ?_ 0 _ rfl; (with_reducible repeat (first | refine blk_drewN ?_ _ | refine blk_drew ?_ | refine blk_alloc ?_ _)); exact BK605.out)⟩, ⟨m_16⟩⟩
            ·rw [if_neg c32] at H
             exact absurd H (by simp)
           ·rw [if_neg c29] at H
            exact absurd H (by simp)
          ·rw [if_neg c28] at H
           exact absurd H (by simp)
         ·rw [if_neg c27] at H
          have c27b0 : decide (x31_2 < (l0.length : Int)) = false := decide_eq_false c27
          clear c27
          simp only [Option.some.injEq, Prod.mk.injEq] at H
          obtain ⟨rfl, rfl⟩ := H
          go_wp2
          go_ret2
          exact ⟨_, m_5, (by (with_reducible repeat (first | apply Kd.N_alloc | apply Kd.N_drewN | apply Kd.N_drew)); exact Kd.N_mono HO_7.out (fun _ hk => hk.1)), m_19⟩
      ·rw [if_neg c24] at H
       exact absurd H (by simp)
     ·rw [if_neg c23] at H
      exact absurd H (by simp)
 ·rw [if_neg c4] at H
  cases H
end Go.Proofs.Ytelklgdmhnkenaa.U
namespace Go.Proofs.Ytelklgdmhnkenaa.U
attribute [local go_sem] max2_int min2_int max_two min_two max_three min_three max_four min_four
def step_Cost.l0 : Nat → List (S99) → List (S66) → Int → Int → Bool → List Int → Bool → List Int → Option (Bool × List Int × Bool × List Int × Int)
 | 0, _, _, _, _, _, _, _, _ => none
 | k + 1, x0, x22, x23, x24, x664000, x664001, x664002, x664003 => if x24 < x23 then (if 0 ≤ x24 then (if x24 < (x22.length : Int) then (if x24 < (x0.length : Int) then ((frac_FromInt64.f ((rd_T99 x0 x24).f1)).bind fun bt667 => ((frac_Mul.f ((rd_T66 x22 x24).f0.f0) ((rd_T66 x22 x24).f0.f1) ((rd_T66 x22 x24).f1.f0) ((rd_T66 x22 x24).f1.f1) bt667.1 bt667.2.1 bt667.2.2.1 bt667.2.2.2).bind fun bt675 => ((frac_Add.f x664000 x664001 x664002 x664003 bt675.1 bt675.2.1 bt675.2.2.1 bt675.2.2.2).bind fun bt683 => (step_Cost.l0 k x0 x22 x23 (wrap64 (x24 + 1)) bt683.1 bt683.2.1 bt683.2.2.1 bt683.2.2.2)))) else (none)) else (none)) else (none)) else (some (x664000, x664001, x664002, x664003, 0))
def step_Cost.f (k : Nat) (l0 : List (S99)) (a1_0 : Bool) (l1_1 : List Int) (a1_2 : Bool) (l1_3 : List Int) : Option (Bool × List Int × Bool × List Int × Int) := (step_Allocate.f k l0 a1_0 l1_1 a1_2 l1_3).bind fun bt651 => (if bt651.2 = 0 then ((frac_FromInt64.f 0).bind fun bt655 => (step_Cost.l0 k l0 bt651.1 (bt651.1.length : Int) 0 bt655.1 bt655.2.1 bt655.2.2.1 bt655.2.2.2)) else (none))
def step_Cost.T8 : Bool × List (List Nat × List Nat) := (true, [([], []), ([], []), ([], []), ([], []), ([2, 3], [2, 3]), ([4], [4]), ([5], [5]), ([6], [6]), ([1, 7, 7], [1, 7]), ([0, 8, 8], [0, 8]), ([9, 9, 0, 1, 2, 3, 4, 5, 6, 7, 8, 9], [9])])
def step_Cost.B8 : List Nat := [0, 0, 0, 0, 12, 28, 60, 124, 254, 511, 1023]
theorem step_Cost.tab8 : rtab .any (opsOf Try.f38 8) = step_Cost.T8 := by kernel_rfl
theorem step_Cost.bits8 : waitsOk step_Cost.T8.2 step_Cost.B8 = true := by kernel_rfl
set_option maxHeartbeats 8000000 in
set_option maxRecDepth 100000 in
theorem step_Cost.calls (k : Nat) (A0 : Option Addr) (c0 : Nat) (l0 : List (S99)) (a1_0 : Bool) (P1_1_ : Nat → Prop) (A1_1 : Option Addr) (c1_1 : Nat) (l1_1 : List Int) (a1_2 : Bool) (P1_3_ : Nat → Prop) (A1_3 : Option Addr) (c1_3 : Nat) (l1_3 : List Int) (r1 : Bool) (r2 : List Int) (r3 : Bool) (r4 : List Int) (r5 : Int) (w : World) (hr0 : Kd.C k99 w A0 l0.length l0) (hc0 : l0.length ≤ c0) (hs1_1 : Kd.V (Kd.int .u32) 117 w w.heap.size (fun k_ => P1_1_ k_) (.slice A1_1 l1_1.length c1_1) l1_1) (hs1_3 : Kd.V (Kd.int .u32) 117 w w.heap.size (fun k_ => P1_3_ k_) (.slice A1_3 l1_3.length c1_3) l1_3) (h : step_Cost.f k l0 a1_0 l1_1 a1_2 l1_3 = some (r1, r2, r3, r4, r5)) :
  Calls Try.prog 38 #[.slice A0 l0.length c0, .agg #[.bool a1_0, .slice A1_1 l1_1.length c1_1, .bool a1_2, .slice A1_3 l1_3.length c1_3]] w fun e w' => ∃ v1_ v3_ : Value, e = .returned (.tuple #[.agg #[.bool r1, v1_, .bool r3, v3_], .int .i64 r5]) ∧ Kd.V (Kd.int .u32) 117 w' w.heap.size (fun k_ => ((P1_1_ k_ ∨ P1_3_ k_) ∨ w.heap.size ≤ k_)) v1_ r2 ∧ Kd.V (Kd.int .u32) 117 w' w.heap.size (fun k_ => ((P1_1_ k_ ∨ P1_3_ k_) ∨ w.heap.size ≤ k_)) v3_ r4 ∧ Below w.heap.size w w' := by
 have HR0 := Aside0.mk hr0
 have HC0 := Aside0.mk hc0
 clear hr0 hc0
 have HO1_1 := Aside0.mk (show Kd.V (Kd.int .u32) 117 w w.heap.size (fun k_ => ((P1_1_ k_ ∨ P1_3_ k_) ∨ w.heap.size ≤ k_)) (.slice A1_1 l1_1.length c1_1) l1_1 from Kd.V_mono hs1_1 (fun k_ hk => .inl (.inl hk)))
 have HO1_3 := Aside0.mk (show Kd.V (Kd.int .u32) 117 w w.heap.size (fun k_ => ((P1_1_ k_ ∨ P1_3_ k_) ∨ w.heap.size ≤ k_)) (.slice A1_3 l1_3.length c1_3) l1_3 from Kd.V_mono hs1_3 (fun k_ hk => .inl (.inr hk)))
 have HB := Aside0.mk (Below.refl w.heap.size w)
 have H : ((step_Allocate.f k l0 a1_0 l1_1 a1_2 l1_3).bind fun bt651 => (if bt651.2 = 0 then ((frac_FromInt64.f 0).bind fun bt655 => (step_Cost.l0 k l0 bt651.1 (bt651.1.length : Int) 0 bt655.1 bt655.2.1 bt655.2.2.1 bt655.2.2.2)) else (none))) = some (r1, r2, r3, r4, r5) := h
 clear h
 replace H := Option.bind_eq_some_iff.mp H
 obtain ⟨⟨t651, t654⟩, A30, H⟩ := H
 replace H : (if t654 = 0 then ((frac_FromInt64.f 0).bind fun bt655 => (step_Cost.l0 k l0 t651 (t651.length : Int) 0 bt655.1 bt655.2.1 bt655.2.2.1 bt655.2.2.2)) else (none)) = some (r1, r2, r3, r4, r5) := H
 have A3 := Aside0.mk A30
 clear A30
 by_cases c4 : t654 = 0
 ·rw [if_pos c4] at H
  have c4b1 : (t654 != 0) = false := bne_eq_false_iff_eq.mpr c4
  clear c4
  replace H := Option.bind_eq_some_iff.mp H
  obtain ⟨⟨t655, t656, t659, t660⟩, A50, H⟩ := H
  replace H : (step_Cost.l0 k l0 t651 (t651.length : Int) 0 t655 t656 t659 t660) = some (r1, r2, r3, r4, r5) := H
  have A5 := Aside0.mk A50
  clear A50
  have H' := Aside0.mk H
  clear H
  go_enter Try.func38, Try.ntmps38
  go_wp2_with (first | ((with_reducible refine gate_dst (N := 3) rfl ?_); refine box_event ?hg (N := 3) ?hd (cs := #[.bool a1_0, .slice A1_1 l1_1.length c1_1, .bool a1_2, .slice A1_3 l1_3.length c1_3]) (t := 66) ?hr ?_; (case hd => rfl); (case hg => rfl); (case hr => exact hr_); intro gb649 hg w6 hbox hb; have BK649 := Aside0.mk (hbox); replace HO1_1 := vE_ HO1_1 hg hb; replace HO1_3 := vE_ HO1_3 hg hb; replace HB := Aside0.mk (below_step m_1 hb); clear hb hbox hg) | ((with_reducible refine gate_dst (N := 4) rfl ?_); refine box_event ?hg (N := 4) ?hd (cs := #[.bool false, .slice none 0 0, .bool false, .slice none 0 0]) (t := 66) ?hr ?_; (case hd => rfl); (case hg => rfl); (case hr => exact hr_); intro gb650 hg w7 hbox hb; have BK650 := Aside0.mk (hbox); have GE650 := gW_ (w := w) hg m_100; replace HO1_1 := vE_ HO1_1 hg hb; replace HO1_3 := vE_ HO1_3 hg hb; replace BK649 := bB_ BK649 hb; replace HB := Aside0.mk (below_step m_100 hb); clear hb hbox hg; obtain ⟨hcz9_0, hcz9_1, hcz9_2, hcz9_3, hfz9_0, hfz9_1, hfz9_2, hfz9_3⟩ := cf4_ BK649) | ((with_reducible refine gate_callee (f := 60) rfl ?_); refine goesL_ (some 14) rfl rfl Try.func60 m_13 rfl #[.slice A0 l0.length c0, .agg #[.bool a1_0, .slice A1_1 l1_1.length c1_1, .bool a1_2, .slice A1_3 l1_3.length c1_3]] rfl m_2 ?_; (with_reducible refine (step_Allocate.calls k _ _ l0 a1_0 (fun k_ => ((((P1_1_ k_ ∨ P1_3_ k_) ∨ w.heap.size ≤ k_) ∧ k_ ≠ gb649) ∧ k_ ≠ gb650)) _ _ l1_1 a1_2 (fun k_ => ((((P1_1_ k_ ∨ P1_3_ k_) ∨ w.heap.size ≤ k_) ∧ k_ ≠ gb649) ∧ k_ ≠ gb650)) _ _ l1_3 t651 t654 _ ?side1 ?side2 ?side3 ?side4 A3.out).mono ?_); (case side1 => exact cA_ (Kd.C_below HR0.out HB.out)); (case side2 => exact HC0.out); (case side3 => exact HO1_1.out); (case side4 => exact HO1_3.out); rintro e w10 ⟨v652, rfl, ho0, hb⟩; refine ⟨_, rfl, ?_⟩; have HO653 := Aside0.mk (Kd.N_lower (Kd.N_mono (ok' := fun k_ => ((P1_1_ k_ ∨ P1_3_ k_) ∨ w.heap.size ≤ k_) ∧ k_ ≠ gb649 ∧ k_ ≠ gb650) ho0 (fun k_ hk_ => ⟨Or.elim hk_ (fun hs_ => Or.elim hs_ (fun hs_ => hs_.1.1) (fun hs_ => hs_.1.1)) (fun hn_ => (.inr (Nat.le_trans (below_size m_26) hn_))), Or.elim hk_ (fun hs_ => Or.elim hs_ (fun hs_ => hs_.1.2) (fun hs_ => hs_.1.2)) (fun hn_ => (Kd.freshB (bA_ BK649.out) k_ hn_)), Or.elim hk_ (fun hs_ => Or.elim hs_ (fun hs_ => hs_.2) (fun hs_ => hs_.2)) (fun hn_ => (Kd.freshB (bA_ BK650.out) k_ hn_))⟩)) (below_size m_26)); replace HO1_1 := Aside0.mk (Kd.V_elder' (vA_ HO1_1.out) (Kd.N_base ho0) hb); replace HO1_3 := Aside0.mk (Kd.V_elder' (vA_ HO1_3.out) (Kd.N_base ho0) hb); replace BK649 := bB_ BK649 hb; replace BK650 := bB_ BK650 hb; replace HB := Aside0.mk (below_step m_26 hb); clear hb; (try clear ho0)) | ((with_reducible refine gate_callee (f := 39) rfl ?_); refine goesL_ (some 21) rfl rfl Try.func39 m_13 rfl #[.int .i64 0] rfl m_2 ?_; (with_reducible refine (frac_FromInt64.calls 0 t655 t656 t659 t660 _ A5.out).mono ?_); rintro e w11 ⟨v657, v661, rfl, ho0, ho1, hb⟩; refine ⟨_, rfl, ?_⟩; have HO658 := Aside0.mk (Kd.V_lower (Kd.V_mono (ok' := fun k_ => ((P1_1_ k_ ∨ P1_3_ k_) ∨ w.heap.size ≤ k_) ∧ some k_ ≠ (v652 : Value).ownBlock ∧ k_ ≠ gb649 ∧ k_ ≠ gb650) ho0 (fun k_ hk_ => ⟨(.inr (Nat.le_trans (below_size m_26) hk_)), (Kd.fresh' (Kd.N_lt m_112) k_ hk_), (Kd.freshB (bA_ BK649.out) k_ hk_), (Kd.freshB (bA_ BK650.out) k_ hk_)⟩)) (below_size m_26)); have HO662 := Aside0.mk (Kd.V_lower (Kd.V_mono (ok' := fun k_ => ((P1_1_ k_ ∨ P1_3_ k_) ∨ w.heap.size ≤ k_) ∧ some k_ ≠ (v652 : Value).ownBlock ∧ k_ ≠ gb649 ∧ k_ ≠ gb650) ho1 (fun k_ hk_ => ⟨(.inr (Nat.le_trans (below_size m_26) hk_)), (Kd.fresh' (Kd.N_lt m_112) k_ hk_), (Kd.freshB (bA_ BK649.out) k_ hk_), (Kd.freshB (bA_ BK650.out) k_ hk_)⟩)) (below_size m_26)); replace HO1_1 := vB_ HO1_1 hb; replace HO1_3 := vB_ HO1_3 hb; replace HO653 := Aside0.mk (Kd.N_below m_112 hb); replace BK649 := bB_ BK649 hb; replace BK650 := bB_ BK650 hb; replace HB := Aside0.mk (below_step m_26 hb); clear hb; (try clear ho0); (try clear ho1)) | ((with_reducible refine gate_dst (N := 8) rfl ?_); refine box_event ?hg (N := 8) ?hd (cs := #[.bool false, .slice none 0 0, .bool false, .slice none 0 0]) (t := 66) ?hr ?_; (case hd => rfl); (case hg => rfl); (case hr => exact hr_); intro gb663 hg w12 hbox hb; have BK663 := Aside0.mk (hbox); have GE663 := gW_ (w := w) hg m_26; have NB649_663 := nl_ BK649 hg; have NB650_663 := nl_ BK650 hg; replace HO1_1 := vE_ HO1_1 hg hb; replace HO1_3 := vE_ HO1_3 hg hb; replace HO653 := Aside0.mk (Kd.N_below (Kd.N_elderB m_112 gb663 (Nat.le_of_eq hg.symm)) hb); replace HO658 := vE_ HO658 hg hb; replace HO662 := vE_ HO662 hg hb; replace BK649 := bB_ BK649 hb; replace BK650 := bB_ BK650 hb; replace HB := Aside0.mk (below_step m_26 hb); clear hb hbox hg; obtain ⟨hcz15_0, hcz15_1, hcz15_2, hcz15_3, hfz15_0, hfz15_1, hfz15_2, hfz15_3⟩ := cf4_ BK663; obtain ⟨Ao16, co16, eo16⟩ := Kd.V_slice HO658.out; subst eo16; obtain ⟨Ao17, co17, eo17⟩ := Kd.V_slice HO662.out; subst eo17; obtain ⟨Ao18, co18, eo18⟩ := Kd.N_slice HO653.out; subst eo18))
  go_loopg [24] k (fun kq v24 w' => ∃ (x24_1 : Int) (x664000_1 : Bool) (x664001_1 : List Int) (x664002_1 : Bool) (x664003_1 : List Int) (u664001 : Value) (u664003 : Value), v24 = .int .i64 x24_1 ∧ Aside0 (step_Cost.l0 kq l0 t651 (t651.length : Int) x24_1 x664000_1 x664001_1 x664002_1 x664003_1 = some (r1, r2, r3, r4, r5)) ∧ Aside0 (kq ≤ k) ∧ Aside0 (Kd.N k66 66 w' w.heap.size (fun k_ => ((P1_1_ k_ ∨ P1_3_ k_) ∨ w.heap.size ≤ k_) ∧ k_ ≠ gb649 ∧ k_ ≠ gb650 ∧ k_ ≠ gb663) (.slice Ao18 t651.length co18) t651) ∧ Aside0 (Kd.V (Kd.int .u32) 117 w' w.heap.size (fun k_ => ((P1_1_ k_ ∨ P1_3_ k_) ∨ w.heap.size ≤ k_) ∧ some k_ ≠ ((.slice Ao18 t651.length co18) : Value).ownBlock ∧ k_ ≠ gb649 ∧ k_ ≠ gb650 ∧ k_ ≠ gb663) (.slice A1_1 l1_1.length c1_1) l1_1) ∧ Aside0 (Kd.V (Kd.int .u32) 117 w' w.heap.size (fun k_ => ((P1_1_ k_ ∨ P1_3_ k_) ∨ w.heap.size ≤ k_) ∧ some k_ ≠ ((.slice Ao18 t651.length co18) : Value).ownBlock ∧ k_ ≠ gb649 ∧ k_ ≠ gb650 ∧ k_ ≠ gb663) (.slice A1_3 l1_3.length c1_3) l1_3) ∧ Aside0 (Kd.V (Kd.int .u32) 117 w' w.heap.size (fun k_ => ((P1_1_ k_ ∨ P1_3_ k_) ∨ w.heap.size ≤ k_) ∧ some k_ ≠ ((.slice Ao18 t651.length co18) : Value).ownBlock ∧ k_ ≠ gb649 ∧ k_ ≠ gb650 ∧ k_ ≠ gb663) u664001 x664001_1) ∧ Aside0 (Kd.V (Kd.int .u32) 117 w' w.heap.size (fun k_ => ((P1_1_ k_ ∨ P1_3_ k_) ∨ w.heap.size ≤ k_) ∧ some k_ ≠ ((.slice Ao18 t651.length co18) : Value).ownBlock ∧ k_ ≠ gb649 ∧ k_ ≠ gb650 ∧ k_ ≠ gb663) u664003 x664003_1) ∧ Aside0 (w'.heap[gb649]? = some (.cells #[.bool a1_0, (.slice A1_1 l1_1.length c1_1), .bool a1_2, (.slice A1_3 l1_3.length c1_3)] 66 (0, 0))) ∧ Aside0 (w'.heap[gb650]? = some (.cells #[.bool false, (.slice none 0 0), .bool false, (.slice none 0 0)] 66 (0, 0))) ∧ Aside0 (w'.heap[gb663]? = some (.cells #[.bool x664000_1, u664001, .bool x664002_1, u664003] 66 (0, 0))) ∧ Aside0 (Below w.heap.size w w'))
  case atStart => exact ⟨(0), (t655), (t656), (t659), (t660), (.slice Ao16 t656.length co16), (.slice Ao17 t660.length co17), m_9, H', ⟨Nat.le_refl _⟩, ⟨(by (with_reducible repeat (first | apply Kd.N_alloc | apply Kd.N_drewN | apply Kd.N_drew)); exact Kd.N_mono (Kd.N_far (p := ⟨gb663, 3, none⟩) (Kd.N_far (p := ⟨gb663, 2, none⟩) (Kd.N_far (p := ⟨gb663, 1, none⟩) (Kd.N_far (p := ⟨gb663, 0, none⟩) (Kd.N_mono HO653.out (fun k_ hk => (⟨hk, hk.2⟩ : _ ∧ k_ ≠ gb663))) (fun _ hk => hk.2) (.bool t655)) (fun _ hk => hk.2) (.slice Ao16 t656.length co16)) (fun _ hk => hk.2) (.bool t659)) (fun _ hk => hk.2) (.slice Ao17 t660.length co17)) (fun _ hk => ⟨hk.1.1.1, ⟨hk.1.1.2.1, ⟨hk.1.1.2.2, hk.1.2⟩⟩⟩))⟩, ⟨(by (with_reducible repeat (first | apply Kd.V_alloc | apply Kd.V_drewN | apply Kd.V_drew)); exact Kd.V_mono (Kd.V_far (p := ⟨gb663, 3, none⟩) (Kd.V_far (p := ⟨gb663, 2, none⟩) (Kd.V_far (p := ⟨gb663, 1, none⟩) (Kd.V_far (p := ⟨gb663, 0, none⟩) (Kd.V_mono HO1_1.out (fun k_ hk => (⟨hk, hk.2⟩ : _ ∧ k_ ≠ gb663))) (fun _ hk => hk.2) (.bool t655)) (fun _ hk => hk.2) (.slice Ao16 t656.length co16)) (fun _ hk => hk.2) (.bool t659)) (fun _ hk => hk.2) (.slice Ao17 t660.length co17)) (fun _ hk => ⟨hk.1.1.1.1.1, ⟨hk.1.1.2, ⟨hk.1.1.1.1.2, ⟨hk.1.1.1.2, hk.1.2⟩⟩⟩⟩))⟩, ⟨(by (with_reducible repeat (first | apply Kd.V_alloc | apply Kd.V_drewN | apply Kd.V_drew)); exact Kd.V_mono (Kd.V_far (p := ⟨gb663, 3, none⟩) (Kd.V_far (p := ⟨gb663, 2, none⟩) (Kd.V_far (p := ⟨gb663, 1, none⟩) (Kd.V_far (p := ⟨gb663, 0, none⟩) (Kd.V_mono HO1_3.out (fun k_ hk => (⟨hk, hk.2⟩ : _ ∧ k_ ≠ gb663))) (fun _ hk => hk.2) (.bool t655)) (fun _ hk => hk.2) (.slice Ao16 t656.length co16)) (fun _ hk => hk.2) (.bool t659)) (fun _ hk => hk.2) (.slice Ao17 t660.length co17)) (fun _ hk => ⟨hk.1.1.1.1.1, ⟨hk.1.1.2, ⟨hk.1.1.1.1.2, ⟨hk.1.1.1.2, hk.1.2⟩⟩⟩⟩))⟩, ⟨(by (with_reducible repeat (first | apply Kd.V_alloc | apply Kd.V_drewN | apply Kd.V_drew)); exact Kd.V_mono (Kd.V_far (p := ⟨gb663, 3, none⟩) (Kd.V_far (p := ⟨gb663, 2, none⟩) (Kd.V_far (p := ⟨gb663, 1, none⟩) (Kd.V_far (p := ⟨gb663, 0, none⟩) (Kd.V_mono HO658.out (fun k_ hk => (⟨hk, hk.2⟩ : _ ∧ k_ ≠ gb663))) (fun _ hk => hk.2) (.bool t655)) (fun _ hk => hk.2) (.slice Ao16 t656.length co16)) (fun _ hk => hk.2) (.bool t659)) (fun _ hk => hk.2) (.slice Ao17 t660.length co17)) (fun _ hk => ⟨hk.1.1.1, ⟨hk.1.1.2.1, ⟨hk.1.1.2.2.1, ⟨hk.1.1.2.2.2, hk.1.2⟩⟩⟩⟩))⟩, ⟨(by (with_reducible repeat (first | apply Kd.V_alloc | apply Kd.V_drewN | apply Kd.V_drew)); exact Kd.V_mono (Kd.V_far (p := ⟨gb663, 3, none⟩) (Kd.V_far (p := ⟨gb663, 2, none⟩) (Kd.V_far (p := ⟨gb663, 1, none⟩) (Kd.V_far (p := ⟨gb663, 0, none⟩) (Kd.V_mono HO662.out (fun k_ hk => (⟨hk, hk.2⟩ : _ ∧ k_ ≠ gb663))) (fun _ hk => hk.2) (.bool t655)) (fun _ hk => hk.2) (.slice Ao16 t656.length co16)) (fun _ hk => hk.2) (.bool t659)) (fun _ hk => hk.2) (.slice Ao17 t660.length co17)) (fun _ hk => ⟨hk.1.1.1, ⟨hk.1.1.2.1, ⟨hk.1.1.2.2.1, ⟨hk.1.1.2.2.2, hk.1.2⟩⟩⟩⟩))⟩, ⟨m_66⟩, ⟨m_65⟩, ⟨(by (with_reducible repeat (first | refine blk_drewN ?_ _ | refine blk_drew ?_ | refine blk_alloc ?_ _)); refine blk_put (cs := #[.bool t655, .slice Ao16 t656.length co16, .bool t659, .slice none 0 0]) ?_ 3 _ rfl; (with_reducible repeat (first | refine blk_drewN ?_ _ | refine blk_drew ?_ | refine blk_alloc ?_ _)); refine blk_put (cs := #[.bool t655, .slice Ao16 t656.length co16, .bool false, .slice none 0 0]) ?_ 2 _ rfl; (with_reducible repeat (first | refine blk_drewN ?_ _ | refine blk_drew ?_ | refine blk_alloc ?_ _)); refine blk_put (cs := #[.bool t655, .slice none 0 0, .bool false, .slice none 0 0]) ?_ 1 _ rfl; (with_reducible repeat (first | refine blk_drewN ?_ _ | refine blk_drew ?_ | refine blk_alloc ?_ _)); refine blk_put (cs := #[.bool false, .slice none 0 0, .bool false, .slice none 0 0]) ?_ 0 _ rfl; (with_reducible repeat (first | refine blk_drewN ?_ _ | refine blk_drew ?_ | refine blk_alloc ?_ _)); exact BK663.out)⟩, ⟨m_53⟩⟩
  case round =>
   clear H'
   (try clear c1); (try clear p2); (try clear c3); (try clear c4); (try skip); (try clear c4b1); (try clear c6); (try clear c8); (try clear c13); (try clear c14); (try clear hcz15_0); (try clear hcz15_1); (try clear hcz15_2); (try clear hcz15_3); (try clear hcz9_0); (try clear hcz9_1); (try clear hcz9_2); (try clear hcz9_3); (try clear hfz15_0); (try clear hfz15_1); (try clear hfz15_2); (try clear hfz15_3); (try clear hfz9_0); (try clear hfz9_1); (try clear hfz9_2); (try clear hfz9_3)
   obtain ⟨x24_1, x664000_1, x664001_1, x664002_1, x664003_1, u664001, u664003, rfl, HA, HK1, HO_22, HO_650001, HO_650003, HO_664001, HO_664003, BK649, BK650, BK663, HB⟩ := hrel
   cases gk with
   | zero => exact absurd HA.out (by simp [step_Cost.l0])
   | succ k1 =>
    have H := HA.out
    clear HA
    simp only [step_Cost.l0] at H
    by_cases c19 : x24_1 < (t651.length : Int)
    ·rw [if_pos c19] at H
     clear c19
     by_cases c20 : 0 ≤ x24_1
     ·rw [if_pos c20] at H
      have c20b0 : decide (0 ≤ x24_1) = true := decide_eq_true c20
      clear c20
      by_cases c21 : x24_1 < (t651.length : Int)
      ·rw [if_pos c21] at H
       have c21b0 : decide (x24_1 < (t651.length : Int)) = true := decide_eq_true c21
       clear c21
       by_cases c22 : x24_1 < (l0.length : Int)
       ·rw [if_pos c22] at H
        have c22b0 : decide (x24_1 < (l0.length : Int)) = true := decide_eq_true c22
        clear c22
        replace H := Option.bind_eq_some_iff.mp H
        obtain ⟨⟨t667, t668, t671, t672⟩, A230, H⟩ := H
        replace H : ((frac_Mul.f ((rd_T66 t651 x24_1).f0.f0) ((rd_T66 t651 x24_1).f0.f1) ((rd_T66 t651 x24_1).f1.f0) ((rd_T66 t651 x24_1).f1.f1) t667 t668 t671 t672).bind fun bt675 => ((frac_Add.f x664000_1 x664001_1 x664002_1 x664003_1 bt675.1 bt675.2.1 bt675.2.2.1 bt675.2.2.2).bind fun bt683 => (step_Cost.l0 k1 l0 t651 (t651.length : Int) (wrap64 (x24_1 + 1)) bt683.1 bt683.2.1 bt683.2.2.1 bt683.2.2.2))) = some (r1, r2, r3, r4, r5) := H
        have A23 := Aside0.mk A230
        clear A230
        replace H := Option.bind_eq_some_iff.mp H
        obtain ⟨⟨t675, t676, t679, t680⟩, A240, H⟩ := H
        replace H : ((frac_Add.f x664000_1 x664001_1 x664002_1 x664003_1 t675 t676 t679 t680).bind fun bt683 => (step_Cost.l0 k1 l0 t651 (t651.length : Int) (wrap64 (x24_1 + 1)) bt683.1 bt683.2.1 bt683.2.2.1 bt683.2.2.2)) = some (r1, r2, r3, r4, r5) := H
        have A24 := Aside0.mk A240
        clear A240
        replace H := Option.bind_eq_some_iff.mp H
        obtain ⟨⟨t683, t684, t687, t688⟩, A250, H⟩ := H
        replace H : (step_Cost.l0 k1 l0 t651 (t651.length : Int) (wrap64 (x24_1 + 1)) t683 t684 t687 t688) = some (r1, r2, r3, r4, r5) := H
        have A25 := Aside0.mk A250
        clear A250
        have H' := Aside0.mk H
        clear H
        have p664 : 0 ≤ (x24_1 : Int) := of_decide_eq_true m_4
        have q664 : x24_1 < (t651.length : Int) := of_decide_eq_true m_4
        obtain ⟨ad664, A664_1, c664_1, A664_3, c664_3, e664, hx664_0, hx664_1, hx664_2, hx664_3, hl664_1, hi664_1, hl664_3, hi664_3⟩ := at_T66 (Kd.N_reads' HO_22.out).2.2 x24_1 p664 q664
        cases e664
        obtain ⟨ce664, hce664, hMe664, hcc664⟩ := Kd.N_get HO_22.out z66 x24_1 p664 (by first | exact q664 | exact of_decide_eq_true m_4 | (have e_ := (Kd.N_reads' HO_22.out).1; omega))
        obtain ⟨ua664_1, uc664_1, ua664_3, uc664_3, rfl, ul664_1, ge664_1, ul664_3, ge664_3⟩ := k66_openF hMe664
        have hv664_1 := hcc664 1 _ rfl
        rw [add_field _ _ 1 (by omega)] at hv664_1
        replace hv664_1 := Option.some.inj (hv664_1.symm.trans hx664_1)
        injection hv664_1 with hva_ hvn_ hvc_
        rw [hva_] at ge664_1
        rw [hvc_] at ul664_1
        have HL664_1 := Aside0.mk (show Kd.V (Kd.int .u32) 117 _ w.heap.size _ _ ((rd_T66 t651 x24_1).f0.f1) from Kd.V_mk ul664_1 ge664_1)
        clear hva_ hvn_ hvc_ ge664_1 ul664_1
        have hv664_3 := hcc664 3 _ rfl
        rw [add_field _ _ 3 (by omega)] at hv664_3
        replace hv664_3 := Option.some.inj (hv664_3.symm.trans hx664_3)
        injection hv664_3 with hva_ hvn_ hvc_
        rw [hva_] at ge664_3
        rw [hvc_] at ul664_3
        have HL664_3 := Aside0.mk (show Kd.V (Kd.int .u32) 117 _ w.heap.size _ _ ((rd_T66 t651 x24_1).f1.f1) from Kd.V_mk ul664_3 ge664_3)
        clear hva_ hvn_ hvc_ ge664_3 ul664_3
        clear hcc664 hce664
        have HC664_1 := Aside0.mk hl664_1
        clear hi664_1 hl664_1
        have HC664_3 := Aside0.mk hl664_3
        clear hi664_3 hl664_3
        replace p664 := eq_true p664
        replace q664 := eq_true q664
        try go_wp2_with (first | ((with_reducible refine gate_dst (N := 10) rfl ?_); refine box_event ?hg (N := 10) ?hd (cs := #[.bool false, .slice none 0 0, .bool false, .slice none 0 0]) (t := 66) ?hr ?_; (case hd => rfl); (case hg => rfl); (case hr => exact hr_); intro gb665 hg w26 hbox hb; have BK665 := Aside0.mk (hbox); have GE665 := gW_ (w := w) hg m_53; have NB649_665 := nl_ BK649 hg; have NB650_665 := nl_ BK650 hg; have NB663_665 := nl_ BK663 hg; replace HO_22 := Aside0.mk (Kd.N_below (Kd.N_elderB m_51 gb665 (Nat.le_of_eq hg.symm)) hb); replace HO_650001 := vE_ HO_650001 hg hb; replace HO_650003 := vE_ HO_650003 hg hb; replace HO_664001 := vE_ HO_664001 hg hb; replace HO_664003 := vE_ HO_664003 hg hb; replace HL664_1 := vE_ HL664_1 hg hb; replace HL664_3 := vE_ HL664_3 hg hb; replace BK649 := bB_ BK649 hb; replace BK650 := bB_ BK650 hb; replace BK663 := bB_ BK663 hb; replace HB := Aside0.mk (below_step m_53 hb); clear hb hbox hg; obtain ⟨hcz30_0, hcz30_1, hcz30_2, hcz30_3, hfz30_0, hfz30_1, hfz30_2, hfz30_3⟩ := cf4_ BK665))
        have n0_ : Aside0 (Kd.N k66 66 ((((w26.setCell ⟨gb665, 0, none⟩ (.bool ((rd_T66 t651 x24_1).f0.f0))).setCell ⟨gb665, 1, none⟩ (.slice A664_1 ((rd_T66 t651 x24_1).f0.f1).length c664_1)).setCell ⟨gb665, 2, none⟩ (.bool ((rd_T66 t651 x24_1).f1.f0))).setCell ⟨gb665, 3, none⟩ (.slice A664_3 ((rd_T66 t651 x24_1).f1.f1).length c664_3)) w.heap.size (fun k_ => ((P1_1_ k_ ∨ P1_3_ k_) ∨ w.heap.size ≤ k_) ∧ k_ ≠ gb649 ∧ k_ ≠ gb650 ∧ k_ ≠ gb663 ∧ k_ ≠ gb665) (.slice (some ad664) t651.length co18) t651) := ⟨(by (with_reducible repeat (first | apply Kd.N_alloc | apply Kd.N_drewN | apply Kd.N_drew)); exact Kd.N_mono (Kd.N_far (p := ⟨gb665, 3, none⟩) (Kd.N_far (p := ⟨gb665, 2, none⟩) (Kd.N_far (p := ⟨gb665, 1, none⟩) (Kd.N_far (p := ⟨gb665, 0, none⟩) (Kd.N_mono HO_22.out (fun k_ hk => (⟨hk, hk.2⟩ : _ ∧ k_ ≠ gb665))) (fun _ hk => hk.2) (.bool ((rd_T66 t651 x24_1).f0.f0))) (fun _ hk => hk.2) (.slice A664_1 ((rd_T66 t651 x24_1).f0.f1).length c664_1)) (fun _ hk => hk.2) (.bool ((rd_T66 t651 x24_1).f1.f0))) (fun _ hk => hk.2) (.slice A664_3 ((rd_T66 t651 x24_1).f1.f1).length c664_3)) (fun _ hk => ⟨hk.1.1.1, ⟨hk.1.1.2.1, ⟨hk.1.1.2.2.1, ⟨hk.1.1.2.2.2, hk.1.2⟩⟩⟩⟩))⟩
        have n1_ : Aside0 (Kd.V (Kd.int .u32) 117 ((((w26.setCell ⟨gb665, 0, none⟩ (.bool ((rd_T66 t651 x24_1).f0.f0))).setCell ⟨gb665, 1, none⟩ (.slice A664_1 ((rd_T66 t651 x24_1).f0.f1).length c664_1)).setCell ⟨gb665, 2, none⟩ (.bool ((rd_T66 t651 x24_1).f1.f0))).setCell ⟨gb665, 3, none⟩ (.slice A664_3 ((rd_T66 t651 x24_1).f1.f1).length c664_3)) w.heap.size (fun k_ => ((P1_1_ k_ ∨ P1_3_ k_) ∨ w.heap.size ≤ k_) ∧ some k_ ≠ (.slice (some ad664) t651.length co18 : Value).ownBlock ∧ k_ ≠ gb649 ∧ k_ ≠ gb650 ∧ k_ ≠ gb663 ∧ k_ ≠ gb665) (.slice A1_1 l1_1.length c1_1) l1_1) := ⟨(by (with_reducible repeat (first | apply Kd.V_alloc | apply Kd.V_drewN | apply Kd.V_drew)); exact Kd.V_mono (Kd.V_far (p := ⟨gb665, 3, none⟩) (Kd.V_far (p := ⟨gb665, 2, none⟩) (Kd.V_far (p := ⟨gb665, 1, none⟩) (Kd.V_far (p := ⟨gb665, 0, none⟩) (Kd.V_mono HO_650001.out (fun k_ hk => (⟨hk, hk.2⟩ : _ ∧ k_ ≠ gb665))) (fun _ hk => hk.2) (.bool ((rd_T66 t651 x24_1).f0.f0))) (fun _ hk => hk.2) (.slice A664_1 ((rd_T66 t651 x24_1).f0.f1).length c664_1)) (fun _ hk => hk.2) (.bool ((rd_T66 t651 x24_1).f1.f0))) (fun _ hk => hk.2) (.slice A664_3 ((rd_T66 t651 x24_1).f1.f1).length c664_3)) (fun _ hk => ⟨hk.1.1.1, ⟨hk.1.1.2.1, ⟨hk.1.1.2.2.1, ⟨hk.1.1.2.2.2.1, ⟨hk.1.1.2.2.2.2, hk.1.2⟩⟩⟩⟩⟩))⟩
        have n2_ : Aside0 (Kd.V (Kd.int .u32) 117 ((((w26.setCell ⟨gb665, 0, none⟩ (.bool ((rd_T66 t651 x24_1).f0.f0))).setCell ⟨gb665, 1, none⟩ (.slice A664_1 ((rd_T66 t651 x24_1).f0.f1).length c664_1)).setCell ⟨gb665, 2, none⟩ (.bool ((rd_T66 t651 x24_1).f1.f0))).setCell ⟨gb665, 3, none⟩ (.slice A664_3 ((rd_T66 t651 x24_1).f1.f1).length c664_3)) w.heap.size (fun k_ => ((P1_1_ k_ ∨ P1_3_ k_) ∨ w.heap.size ≤ k_) ∧ some k_ ≠ (.slice (some ad664) t651.length co18 : Value).ownBlock ∧ k_ ≠ gb649 ∧ k_ ≠ gb650 ∧ k_ ≠ gb663 ∧ k_ ≠ gb665) (.slice A1_3 l1_3.length c1_3) l1_3) := ⟨(by (with_reducible repeat (first | apply Kd.V_alloc | apply Kd.V_drewN | apply Kd.V_drew)); exact Kd.V_mono (Kd.V_far (p := ⟨gb665, 3, none⟩) (Kd.V_far (p := ⟨gb665, 2, none⟩) (Kd.V_far (p := ⟨gb665, 1, none⟩) (Kd.V_far (p := ⟨gb665, 0, none⟩) (Kd.V_mono HO_650003.out (fun k_ hk => (⟨hk, hk.2⟩ : _ ∧ k_ ≠ gb665))) (fun _ hk => hk.2) (.bool ((rd_T66 t651 x24_1).f0.f0))) (fun _ hk => hk.2) (.slice A664_1 ((rd_T66 t651 x24_1).f0.f1).length c664_1)) (fun _ hk => hk.2) (.bool ((rd_T66 t651 x24_1).f1.f0))) (fun _ hk => hk.2) (.slice A664_3 ((rd_T66 t651 x24_1).f1.f1).length c664_3)) (fun _ hk => ⟨hk.1.1.1, ⟨hk.1.1.2.1, ⟨hk.1.1.2.2.1, ⟨hk.1.1.2.2.2.1, ⟨hk.1.1.2.2.2.2, hk.1.2⟩⟩⟩⟩⟩))⟩
        have n3_ : Aside0 (Kd.V (Kd.int .u32) 117 ((((w26.setCell ⟨gb665, 0, none⟩ (.bool ((rd_T66 t651 x24_1).f0.f0))).setCell ⟨gb665, 1, none⟩ (.slice A664_1 ((rd_T66 t651 x24_1).f0.f1).length c664_1)).setCell ⟨gb665, 2, none⟩ (.bool ((rd_T66 t651 x24_1).f1.f0))).setCell ⟨gb665, 3, none⟩ (.slice A664_3 ((rd_T66 t651 x24_1).f1.f1).length c664_3)) w.heap.size (fun k_ => ((P1_1_ k_ ∨ P1_3_ k_) ∨ w.heap.size ≤ k_) ∧ some k_ ≠ (.slice (some ad664) t651.length co18 : Value).ownBlock ∧ k_ ≠ gb649 ∧ k_ ≠ gb650 ∧ k_ ≠ gb663 ∧ k_ ≠ gb665) u664001 x664001_1) := ⟨(by (with_reducible repeat (first | apply Kd.V_alloc | apply Kd.V_drewN | apply Kd.V_drew)); exact Kd.V_mono (Kd.V_far (p := ⟨gb665, 3, none⟩) (Kd.V_far (p := ⟨gb665, 2, none⟩) (Kd.V_far (p := ⟨gb665, 1, none⟩) (Kd.V_far (p := ⟨gb665, 0, none⟩) (Kd.V_mono HO_664001.out (fun k_ hk => (⟨hk, hk.2⟩ : _ ∧ k_ ≠ gb665))) (fun _ hk => hk.2) (.bool ((rd_T66 t651 x24_1).f0.f0))) (fun _ hk => hk.2) (.slice A664_1 ((rd_T66 t651 x24_1).f0.f1).length c664_1)) (fun _ hk => hk.2) (.bool ((rd_T66 t651 x24_1).f1.f0))) (fun _ hk => hk.2) (.slice A664_3 ((rd_T66 t651 x24_1).f1.f1).length c664_3)) (fun _ hk => ⟨hk.1.1.1, ⟨hk.1.1.2.1, ⟨hk.1.1.2.2.1, ⟨hk.1.1.2.2.2.1, ⟨hk.1.1.2.2.2.2, hk.1.2⟩⟩⟩⟩⟩))⟩
        have n4_ : Aside0 (Kd.V (Kd.int .u32) 117 ((((w26.setCell ⟨gb665, 0, none⟩ (.bool ((rd_T66 t651 x24_1).f0.f0))).setCell ⟨gb665, 1, none⟩ (.slice A664_1 ((rd_T66 t651 x24_1).f0.f1).length c664_1)).setCell ⟨gb665, 2, none⟩ (.bool ((rd_T66 t651 x24_1).f1.f0))).setCell ⟨gb665, 3, none⟩ (.slice A664_3 ((rd_T66 t651 x24_1).f1.f1).length c664_3)) w.heap.size (fun k_ => ((P1_1_ k_ ∨ P1_3_ k_) ∨ w.heap.size ≤ k_) ∧ some k_ ≠ (.slice (some ad664) t651.length co18 : Value).ownBlock ∧ k_ ≠ gb649 ∧ k_ ≠ gb650 ∧ k_ ≠ gb663 ∧ k_ ≠ gb665) u664003 x664003_1) := ⟨(by (with_reducible repeat (first | apply Kd.V_alloc | apply Kd.V_drewN | apply Kd.V_drew)); exact Kd.V_mono (Kd.V_far (p := ⟨gb665, 3, none⟩) (Kd.V_far (p := ⟨gb665, 2, none⟩) (Kd.V_far (p := ⟨gb665, 1, none⟩) (Kd.V_far (p := ⟨gb665, 0, none⟩) (Kd.V_mono HO_664003.out (fun k_ hk => (⟨hk, hk.2⟩ : _ ∧ k_ ≠ gb665))) (fun _ hk => hk.2) (.bool ((rd_T66 t651 x24_1).f0.f0))) (fun _ hk => hk.2) (.slice A664_1 ((rd_T66 t651 x24_1).f0.f1).length c664_1)) (fun _ hk => hk.2) (.bool ((rd_T66 t651 x24_1).f1.f0))) (fun _ hk => hk.2) (.slice A664_3 ((rd_T66 t651 x24_1).f1.f1).length c664_3)) (fun _ hk => ⟨hk.1.1.1, ⟨hk.1.1.2.1, ⟨hk.1.1.2.2.1, ⟨hk.1.1.2.2.2.1, ⟨hk.1.1.2.2.2.2, hk.1.2⟩⟩⟩⟩⟩))⟩
        have n5_ : Aside0 (Kd.V (Kd.int .u32) 117 ((((w26.setCell ⟨gb665, 0, none⟩ (.bool ((rd_T66 t651 x24_1).f0.f0))).setCell ⟨gb665, 1, none⟩ (.slice A664_1 ((rd_T66 t651 x24_1).f0.f1).length c664_1)).setCell ⟨gb665, 2, none⟩ (.bool ((rd_T66 t651 x24_1).f1.f0))).setCell ⟨gb665, 3, none⟩ (.slice A664_3 ((rd_T66 t651 x24_1).f1.f1).length c664_3)) w.heap.size (fun k_ => ((P1_1_ k_ ∨ P1_3_ k_) ∨ w.heap.size ≤ k_) ∧ some k_ ≠ (.slice (some ad664) t651.length co18 : Value).ownBlock ∧ k_ ≠ gb649 ∧ k_ ≠ gb650 ∧ k_ ≠ gb663 ∧ k_ ≠ gb665) (.slice A664_1 ((rd_T66 t651 x24_1).f0.f1).length c664_1) ((rd_T66 t651 x24_1).f0.f1)) := ⟨(by (with_reducible repeat (first | apply Kd.V_alloc | apply Kd.V_drewN | apply Kd.V_drew)); exact Kd.V_mono (Kd.V_far (p := ⟨gb665, 3, none⟩) (Kd.V_far (p := ⟨gb665, 2, none⟩) (Kd.V_far (p := ⟨gb665, 1, none⟩) (Kd.V_far (p := ⟨gb665, 0, none⟩) (Kd.V_mono HL664_1.out (fun k_ hk => (⟨hk, hk.2⟩ : _ ∧ k_ ≠ gb665))) (fun _ hk => hk.2) (.bool ((rd_T66 t651 x24_1).f0.f0))) (fun _ hk => hk.2) (.slice A664_1 ((rd_T66 t651 x24_1).f0.f1).length c664_1)) (fun _ hk => hk.2) (.bool ((rd_T66 t651 x24_1).f1.f0))) (fun _ hk => hk.2) (.slice A664_3 ((rd_T66 t651 x24_1).f1.f1).length c664_3)) (fun _ hk => ⟨hk.1.1.1.1, ⟨hk.1.1.2, ⟨hk.1.1.1.2.1, ⟨hk.1.1.1.2.2.1, ⟨hk.1.1.1.2.2.2, hk.1.2⟩⟩⟩⟩⟩))⟩
        have n6_ : Aside0 (Kd.V (Kd.int .u32) 117 ((((w26.setCell ⟨gb665, 0, none⟩ (.bool ((rd_T66 t651 x24_1).f0.f0))).setCell ⟨gb665, 1, none⟩ (.slice A664_1 ((rd_T66 t651 x24_1).f0.f1).length c664_1)).setCell ⟨gb665, 2, none⟩ (.bool ((rd_T66 t651 x24_1).f1.f0))).setCell ⟨gb665, 3, none⟩ (.slice A664_3 ((rd_T66 t651 x24_1).f1.f1).length c664_3)) w.heap.size (fun k_ => ((P1_1_ k_ ∨ P1_3_ k_) ∨ w.heap.size ≤ k_) ∧ some k_ ≠ (.slice (some ad664) t651.length co18 : Value).ownBlock ∧ k_ ≠ gb649 ∧ k_ ≠ gb650 ∧ k_ ≠ gb663 ∧ k_ ≠ gb665) (.slice A664_3 ((rd_T66 t651 x24_1).f1.f1).length c664_3) ((rd_T66 t651 x24_1).f1.f1)) := ⟨(by (with_reducible repeat (first | apply Kd.V_alloc | apply Kd.V_drewN | apply Kd.V_drew)); exact Kd.V_mono (Kd.V_far (p := ⟨gb665, 3, none⟩) (Kd.V_far (p := ⟨gb665, 2, none⟩) (Kd.V_far (p := ⟨gb665, 1, none⟩) (Kd.V_far (p := ⟨gb665, 0, none⟩) (Kd.V_mono HL664_3.out (fun k_ hk => (⟨hk, hk.2⟩ : _ ∧ k_ ≠ gb665))) (fun _ hk => hk.2) (.bool ((rd_T66 t651 x24_1).f0.f0))) (fun _ hk => hk.2) (.slice A664_1 ((rd_T66 t651 x24_1).f0.f1).length c664_1)) (fun _ hk => hk.2) (.bool ((rd_T66 t651 x24_1).f1.f0))) (fun _ hk => hk.2) (.slice A664_3 ((rd_T66 t651 x24_1).f1.f1).length c664_3)) (fun _ hk => ⟨hk.1.1.1.1, ⟨hk.1.1.2, ⟨hk.1.1.1.2.1, ⟨hk.1.1.1.2.2.1, ⟨hk.1.1.1.2.2.2, hk.1.2⟩⟩⟩⟩⟩))⟩
        have n7_ : Aside0 (((((w26.setCell ⟨gb665, 0, none⟩ (.bool ((rd_T66 t651 x24_1).f0.f0))).setCell ⟨gb665, 1, none⟩ (.slice A664_1 ((rd_T66 t651 x24_1).f0.f1).length c664_1)).setCell ⟨gb665, 2, none⟩ (.bool ((rd_T66 t651 x24_1).f1.f0))).setCell ⟨gb665, 3, none⟩ (.slice A664_3 ((rd_T66 t651 x24_1).f1.f1).length c664_3)).heap[gb649]? = some (.cells #[.bool a1_0, .slice A1_1 l1_1.length c1_1, .bool a1_2, .slice A1_3 l1_3.length c1_3] 66 (0, 0))) := ⟨(by (with_reducible repeat (first | refine blk_drewN ?_ _ | refine blk_drew ?_ | refine blk_alloc ?_ _)); refine blk_far ?_ NB649_665.out _; (with_reducible repeat (first | refine blk_drewN ?_ _ | refine blk_drew ?_ | refine blk_alloc ?_ _)); refine blk_far ?_ NB649_665.out _; (with_reducible repeat (first | refine blk_drewN ?_ _ | refine blk_drew ?_ | refine blk_alloc ?_ _)); refine blk_far ?_ NB649_665.out _; (with_reducible repeat (first | refine blk_drewN ?_ _ | refine blk_drew ?_ | refine blk_alloc ?_ _)); refine blk_far ?_ NB649_665.out _; (with_reducible repeat (first | refine blk_drewN ?_ _ | refine blk_drew ?_ | refine blk_alloc ?_ _)); exact BK649.out)⟩
        have n8_ : Aside0 (((((w26.setCell ⟨gb665, 0, none⟩ (.bool ((rd_T66 t651 x24_1).f0.f0))).setCell ⟨gb665, 1, none⟩ (.slice A664_1 ((rd_T66 t651 x24_1).f0.f1).length c664_1)).setCell ⟨gb665, 2, none⟩ (.bool ((rd_T66 t651 x24_1).f1.f0))).setCell ⟨gb665, 3, none⟩ (.slice A664_3 ((rd_T66 t651 x24_1).f1.f1).length c664_3)).heap[gb650]? = some (.cells #[.bool false, .slice none 0 0, .bool false, .slice none 0 0] 66 (0, 0))) := ⟨(by (with_reducible repeat (first | refine blk_drewN ?_ _ | refine blk_drew ?_ | refine blk_alloc ?_ _)); refine blk_far ?_ NB650_665.out _; (with_reducible repeat (first | refine blk_drewN ?_ _ | refine blk_drew ?_ | refine blk_alloc ?_ _)); refine blk_far ?_ NB650_665.out _; (with_reducible repeat (first | refine blk_drewN ?_ _ | refine blk_drew ?_ | refine blk_alloc ?_ _)); refine blk_far ?_ NB650_665.out _; (with_reducible repeat (first | refine blk_drewN ?_ _ | refine blk_drew ?_ | refine blk_alloc ?_ _)); refine blk_far ?_ NB650_665.out _; (with_reducible repeat (first | refine blk_drewN ?_ _ | refine blk_drew ?_ | refine blk_alloc ?_ _)); exact BK650.out)⟩
        have n9_ : Aside0 (((((w26.setCell ⟨gb665, 0, none⟩ (.bool ((rd_T66 t651 x24_1).f0.f0))).setCell ⟨gb665, 1, none⟩ (.slice A664_1 ((rd_T66 t651 x24_1).f0.f1).length c664_1)).setCell ⟨gb665, 2, none⟩ (.bool ((rd_T66 t651 x24_1).f1.f0))).setCell ⟨gb665, 3, none⟩ (.slice A664_3 ((rd_T66 t651 x24_1).f1.f1).length c664_3)).heap[gb663]? = some (.cells #[.bool x664000_1, u664001, .bool x664002_1, u664003] 66 (0, 0))) := ⟨(by (with_reducible repeat (first | refine blk_drewN ?_ _ | refine blk_drew ?_ | refine blk_alloc ?_ _)); refine blk_far ?_ NB663_665.out _; (with_reducible repeat (first | refine blk_drewN ?_ _ | refine blk_drew ?_ | refine blk_alloc ?_ _)); refine blk_far ?_ NB663_665.out _; (with_reducible repeat (first | refine blk_drewN ?_ _ | refine blk_drew ?_ | refine blk_alloc ?_ _)); refine blk_far ?_ NB663_665.out _; (with_reducible repeat (first | refine blk_drewN ?_ _ | refine blk_drew ?_ | refine blk_alloc ?_ _)); refine blk_far ?_ NB663_665.out _; (with_reducible repeat (first | refine blk_drewN ?_ _ | refine blk_drew ?_ | refine blk_alloc ?_ _)); exact BK663.out)⟩
        have n10_ : Aside0 (((((w26.setCell ⟨gb665, 0, none⟩ (.bool ((rd_T66 t651 x24_1).f0.f0))).setCell ⟨gb665, 1, none⟩ (.slice A664_1 ((rd_T66 t651 x24_1).f0.f1).length c664_1)).setCell ⟨gb665, 2, none⟩ (.bool ((rd_T66 t651 x24_1).f1.f0))).setCell ⟨gb665, 3, none⟩ (.slice A664_3 ((rd_T66 t651 x24_1).f1.f1).length c664_3)).heap[gb665]? = some (.cells #[.bool ((rd_T66 t651 x24_1).f0.f0), .slice A664_1 ((rd_T66 t651 x24_1).f0.f1).length c664_1, .bool ((rd_T66 t651 x24_1).f1.f0), .slice A664_3 ((rd_T66 t651 x24_1).f1.f1).length c664_3] 66 (0, 0))) := ⟨(by (with_reducible repeat (first | refine blk_drewN ?_ _ | refine blk_drew ?_ | refine blk_alloc ?_ _)); refine blk_put (cs := #[.bool ((rd_T66 t651 x24_1).f0.f0), .slice A664_1 ((rd_T66 t651 x24_1).f0.f1).length c664_1, .bool ((rd_T66 t651 x24_1).f1.f0), .slice none 0 0]) ?_ 3 _ rfl; (with_reducible repeat (first | refine blk_drewN ?_ _ | refine blk_drew ?_ | refine blk_alloc ?_ _)); refine blk_put (cs := #[.bool ((rd_T66 t651 x24_1).f0.f0), .slice A664_1 ((rd_T66 t651 x24_1).f0.f1).length c664_1, .bool false, .slice none 0 0]) ?_ 2 _ rfl; (with_reducible repeat (first | refine blk_drewN ?_ _ | refine blk_drew ?_ | refine blk_alloc ?_ _)); refine blk_put (cs := #[.bool ((rd_T66 t651 x24_1).f0.f0), .slice none 0 0, .bool false, .slice none 0 0]) ?_ 1 _ rfl; (with_reducible repeat (first | refine blk_drewN ?_ _ | refine blk_drew ?_ | refine blk_alloc ?_ _)); refine blk_put (cs := #[.bool false, .slice none 0 0, .bool false, .slice none 0 0]) ?_ 0 _ rfl; (with_reducible repeat (first | refine blk_drewN ?_ _ | refine blk_drew ?_ | refine blk_alloc ?_ _)); exact BK665.out)⟩
        have n11_ : Aside0 (Below w.heap.size w ((((w26.setCell ⟨gb665, 0, none⟩ (.bool ((rd_T66 t651 x24_1).f0.f0))).setCell ⟨gb665, 1, none⟩ (.slice A664_1 ((rd_T66 t651 x24_1).f0.f1).length c664_1)).setCell ⟨gb665, 2, none⟩ (.bool ((rd_T66 t651 x24_1).f1.f0))).setCell ⟨gb665, 3, none⟩ (.slice A664_3 ((rd_T66 t651 x24_1).f1.f1).length c664_3))) := ⟨m_11⟩
        (try clear HO_22); (try clear HO_650001); (try clear HO_650003); (try clear HO_664001); (try clear HO_664003); (try clear HL664_1); (try clear HL664_3); (try clear BK649); (try clear BK650); (try clear BK663); (try clear BK665); (try clear HB)
        generalize ((((w26.setCell ⟨gb665, 0, none⟩ (.bool ((rd_T66 t651 x24_1).f0.f0))).setCell ⟨gb665, 1, none⟩ (.slice A664_1 ((rd_T66 t651 x24_1).f0.f1).length c664_1)).setCell ⟨gb665, 2, none⟩ (.bool ((rd_T66 t651 x24_1).f1.f0))).setCell ⟨gb665, 3, none⟩ (.slice A664_3 ((rd_T66 t651 x24_1).f1.f1).length c664_3)) = w31 at n0_ n1_ n2_ n3_ n4_ n5_ n6_ n7_ n8_ n9_ n10_ n11_ ⊢
        have HO_22 := n0_
        have HO_650001 := n1_
        have HO_650003 := n2_
        have HO_664001 := n3_
        have HO_664003 := n4_
        have HL664_1 := n5_
        have HL664_3 := n6_
        have BK649 := n7_
        have BK650 := n8_
        have BK663 := n9_
        have BK665 := n10_
        have HB := n11_
        clear n0_ n1_ n2_ n3_ n4_ n5_ n6_ n7_ n8_ n9_ n10_ n11_
        replace HO_22 := Aside0.mk (Kd.N_drew HO_22.out)
        replace HO_650001 := vD_ HO_650001
        replace HO_650003 := vD_ HO_650003
        replace HO_664001 := vD_ HO_664001
        replace HO_664003 := vD_ HO_664003
        replace HL664_1 := vD_ HL664_1
        replace HL664_3 := vD_ HL664_3
        replace BK649 := bD_ BK649
        replace BK650 := bD_ BK650
        replace BK663 := bD_ BK663
        replace BK665 := bD_ BK665
        replace HB := Aside0.mk (below_drew1 HB.out)
        have p666 : 0 ≤ (x24_1 : Int) := of_decide_eq_true m_4
        have q666 : x24_1 < (l0.length : Int) := of_decide_eq_true m_4
        obtain ⟨ad666, e666, hx666_0, hx666_1⟩ := at_T99 HR0.out x24_1 p666 q666
        have hw666_1 := hx666_1
        have hw666_0 := hx666_0
        cases e666
        replace q666 := eq_true q666
        refine start_ (n := 11) (S := fun w' => w'.cell? ⟨gb663, 0, none⟩ = some (.bool x664000_1) ∧ w'.cell? ⟨gb663, 1, none⟩ = some (u664001) ∧ w'.cell? ⟨gb663, 2, none⟩ = some (.bool x664002_1) ∧ w'.cell? ⟨gb663, 3, none⟩ = some (u664003) ∧ w'.cell? ⟨gb665, 0, none⟩ = some (.bool ((rd_T66 t651 x24_1).f0.f0)) ∧ w'.cell? ⟨gb665, 1, none⟩ = some (.slice A664_1 ((rd_T66 t651 x24_1).f0.f1).length c664_1) ∧ w'.cell? ⟨gb665, 2, none⟩ = some (.bool ((rd_T66 t651 x24_1).f1.f0)) ∧ w'.cell? ⟨gb665, 3, none⟩ = some (.slice A664_3 ((rd_T66 t651 x24_1).f1.f1).length c664_3) ∧ w'.cell? (ad666.add ((x24_1).toNat * 2)) = some (.int .i64 ((rd_T99 l0 x24_1).f0)) ∧ w'.cell? ⟨(ad666.add ((x24_1).toNat * 2)).block, (ad666.add ((x24_1).toNat * 2)).off + 1, none⟩ = some (.int .i64 ((rd_T99 l0 x24_1).f1))) (ds := [10]) #[false, false, false, false, false, false, false, false, false, false, false] m_13 rfl rfl ⟨(blk_cell BK663.out 0).trans rfl, (blk_cell BK663.out 1).trans rfl, (blk_cell BK663.out 2).trans rfl, (blk_cell BK663.out 3).trans rfl, (blk_cell BK665.out 0).trans rfl, (blk_cell BK665.out 1).trans rfl, (blk_cell BK665.out 2).trans rfl, (blk_cell BK665.out 3).trans rfl, (mv_ HB hw666_0), (mv_ HB hw666_1)⟩ (fun hHeld => ?_); refine with_tabW step_Cost.tab8 step_Cost.bits8 (fun HT_ HW_ => ?_)
        generalize w31.drew = w32 at HO_22 HO_650001 HO_650003 HO_664001 HO_664003 HL664_1 HL664_3 BK649 BK650 BK663 BK665 HB hHeld ⊢
        refine pA_ 2 HT_.out ?_
        refine pA_ 3 HT_.out ?_
        refine pA_ 4 HT_.out ?_
        refine pA_ 5 HT_.out ?_
        refine tA_ 0 HT_.out HW_.out hHeld ?_
        refine tA_ 1 HT_.out HW_.out hHeld ?_
        refine tA_ 6 HT_.out HW_.out hHeld ?_
        refine cB_1 7 Try.func39 (args := #[.int .i64 ((rd_T99 l0 x24_1).f1)]) ?_
        with_reducible refine (frac_FromInt64.calls ((rd_T99 l0 x24_1).f1) t667 t668 t671 t672 _ A23.out).mono ?_
        rintro e w33 ⟨v669, v673, rfl, ho0, ho1, hb⟩
        refine ⟨_, rfl, ?_⟩
        have HO670 := Aside0.mk (Kd.V_lower (Kd.V_mono (ok' := fun k_ => ((P1_1_ k_ ∨ P1_3_ k_) ∨ w.heap.size ≤ k_) ∧ some k_ ≠ (.slice (some ad664) t651.length co18 : Value).ownBlock ∧ k_ ≠ gb649 ∧ k_ ≠ gb650 ∧ k_ ≠ gb663 ∧ k_ ≠ gb665) ho0 (fun k_ hk_ => ⟨(.inr (Nat.le_trans (below_size m_11) hk_)), (Kd.fresh' (Kd.N_lt m_51) k_ hk_), (Kd.freshB (bA_ BK649.out) k_ hk_), (Kd.freshB (bA_ BK650.out) k_ hk_), (Kd.freshB (bA_ BK663.out) k_ hk_), (Kd.freshB (bA_ BK665.out) k_ hk_)⟩)) (below_size m_11))
        have HO674 := Aside0.mk (Kd.V_lower (Kd.V_mono (ok' := fun k_ => ((P1_1_ k_ ∨ P1_3_ k_) ∨ w.heap.size ≤ k_) ∧ some k_ ≠ (.slice (some ad664) t651.length co18 : Value).ownBlock ∧ k_ ≠ gb649 ∧ k_ ≠ gb650 ∧ k_ ≠ gb663 ∧ k_ ≠ gb665) ho1 (fun k_ hk_ => ⟨(.inr (Nat.le_trans (below_size m_11) hk_)), (Kd.fresh' (Kd.N_lt m_51) k_ hk_), (Kd.freshB (bA_ BK649.out) k_ hk_), (Kd.freshB (bA_ BK650.out) k_ hk_), (Kd.freshB (bA_ BK663.out) k_ hk_), (Kd.freshB (bA_ BK665.out) k_ hk_)⟩)) (below_size m_11))
        replace HO_22 := Aside0.mk (Kd.N_below m_51 hb)
        replace HO_650001 := vB_ HO_650001 hb
        replace HO_650003 := vB_ HO_650003 hb
        replace HO_664001 := vB_ HO_664001 hb
        replace HO_664003 := vB_ HO_664003 hb
        replace HL664_1 := vB_ HL664_1 hb
        replace HL664_3 := vB_ HL664_3 hb
        replace BK649 := bB_ BK649 hb
        replace BK650 := bB_ BK650 hb
        replace BK663 := bB_ BK663 hb
        replace BK665 := bB_ BK665 hb
        replace HB := Aside0.mk (below_step m_11 hb)
        (try clear hb); (try clear hb2); (try clear hk); (try clear hi); (try clear ho0); (try clear ho1)
        obtain ⟨Ao34, co34, eo34⟩ := Kd.V_slice HO670.out
        (first | subst eo34 | (injection eo34 with f1_ f2_ f3_; have f4_ := f1_.symm; have f5_ := f3_.symm; clear f1_ f2_ f3_; subst f4_; subst f5_))
        obtain ⟨Ao35, co35, eo35⟩ := Kd.V_slice HO674.out
        (first | subst eo35 | (injection eo35 with f1_ f2_ f3_; have f4_ := f1_.symm; have f5_ := f3_.symm; clear f1_ f2_ f3_; subst f4_; subst f5_))
        refine nx_ ⟨(blk_cell BK663.out 0).trans rfl, (blk_cell BK663.out 1).trans rfl, (blk_cell BK663.out 2).trans rfl, (blk_cell BK663.out 3).trans rfl, (blk_cell BK665.out 0).trans rfl, (blk_cell BK665.out 1).trans rfl, (blk_cell BK665.out 2).trans rfl, (blk_cell BK665.out 3).trans rfl, (mv_ HB hw666_0), (mv_ HB hw666_1)⟩ (fun hHeld => ?_)
        refine cB_1 8 Try.func62 (args := #[.agg #[.bool ((rd_T66 t651 x24_1).f0.f0), .slice A664_1 ((rd_T66 t651 x24_1).f0.f1).length c664_1, .bool ((rd_T66 t651 x24_1).f1.f0), .slice A664_3 ((rd_T66 t651 x24_1).f1.f1).length c664_3], .agg #[.bool t667, .slice Ao34 t668.length co34, .bool t671, .slice Ao35 t672.length co35]]) ?_
        with_reducible refine (frac_Mul.calls ((rd_T66 t651 x24_1).f0.f0) _ _ ((rd_T66 t651 x24_1).f0.f1) ((rd_T66 t651 x24_1).f1.f0) _ _ ((rd_T66 t651 x24_1).f1.f1) t667 _ _ t668 t671 _ _ t672 t675 t676 t679 t680 _ ?side1 ?side2 ?side3 ?side4 ?side5 ?side6 ?side7 ?side8 A24.out).mono ?_
        (case side1 => exact (by repeat (first | exact ((Kd.V_reads' (vA_ HL664_1.out)).2.2) | (with_reducible refine Kd.C_alloc ?_ _) | (with_reducible refine Kd.C_drewN ?_ _) | (with_reducible refine Kd.C_drew ?_))))
        (case side2 => exact HC664_1.out)
        (case side3 => exact (by repeat (first | exact ((Kd.V_reads' (vA_ HL664_3.out)).2.2) | (with_reducible refine Kd.C_alloc ?_ _) | (with_reducible refine Kd.C_drewN ?_ _) | (with_reducible refine Kd.C_drew ?_))))
        (case side4 => exact HC664_3.out)
        (case side5 => exact cA_ (Kd.V_reads' HO670.out).2.2)
        (case side6 => exact (Kd.V_reads' HO670.out).2.1)
        (case side7 => exact cA_ (Kd.V_reads' HO674.out).2.2)
        (case side8 => exact (Kd.V_reads' HO674.out).2.1)
        rintro e w36 ⟨v677, v681, rfl, ho0, ho1, hb⟩
        refine ⟨_, rfl, ?_⟩
        have HO678 := Aside0.mk (Kd.V_lower (Kd.V_mono (ok' := fun k_ => ((P1_1_ k_ ∨ P1_3_ k_) ∨ w.heap.size ≤ k_) ∧ some k_ ≠ (.slice (some ad664) t651.length co18 : Value).ownBlock ∧ k_ ≠ gb649 ∧ k_ ≠ gb650 ∧ k_ ≠ gb663 ∧ k_ ≠ gb665) ho0 (fun k_ hk_ => ⟨(.inr (Nat.le_trans (below_size m_11) hk_)), (Kd.fresh' (Kd.N_lt m_51) k_ hk_), (Kd.freshB (bA_ BK649.out) k_ hk_), (Kd.freshB (bA_ BK650.out) k_ hk_), (Kd.freshB (bA_ BK663.out) k_ hk_), (Kd.freshB (bA_ BK665.out) k_ hk_)⟩)) (below_size m_11))
        have HO682 := Aside0.mk (Kd.V_lower (Kd.V_mono (ok' := fun k_ => ((P1_1_ k_ ∨ P1_3_ k_) ∨ w.heap.size ≤ k_) ∧ some k_ ≠ (.slice (some ad664) t651.length co18 : Value).ownBlock ∧ k_ ≠ gb649 ∧ k_ ≠ gb650 ∧ k_ ≠ gb663 ∧ k_ ≠ gb665) ho1 (fun k_ hk_ => ⟨(.inr (Nat.le_trans (below_size m_11) hk_)), (Kd.fresh' (Kd.N_lt m_51) k_ hk_), (Kd.freshB (bA_ BK649.out) k_ hk_), (Kd.freshB (bA_ BK650.out) k_ hk_), (Kd.freshB (bA_ BK663.out) k_ hk_), (Kd.freshB (bA_ BK665.out) k_ hk_)⟩)) (below_size m_11))
        replace HO_22 := Aside0.mk (Kd.N_below m_51 hb)
        replace HO_650001 := vB_ HO_650001 hb
        replace HO_650003 := vB_ HO_650003 hb
        replace HO_664001 := vB_ HO_664001 hb
        replace HO_664003 := vB_ HO_664003 hb
        replace BK649 := bB_ BK649 hb
        replace BK650 := bB_ BK650 hb
        replace BK663 := bB_ BK663 hb
        replace BK665 := bB_ BK665 hb
        replace HB := Aside0.mk (below_step m_11 hb)
        (try clear hb); (try clear hb2); (try clear hk); (try clear hi); (try clear ho0); (try clear ho1)
        obtain ⟨Ao37, co37, eo37⟩ := Kd.V_slice HO_664001.out
        (first | subst eo37 | (injection eo37 with f1_ f2_ f3_; have f4_ := f1_.symm; have f5_ := f3_.symm; clear f1_ f2_ f3_; subst f4_; subst f5_))
        obtain ⟨Ao38, co38, eo38⟩ := Kd.V_slice HO_664003.out
        (first | subst eo38 | (injection eo38 with f1_ f2_ f3_; have f4_ := f1_.symm; have f5_ := f3_.symm; clear f1_ f2_ f3_; subst f4_; subst f5_))
        obtain ⟨Ao39, co39, eo39⟩ := Kd.V_slice HO678.out
        (first | subst eo39 | (injection eo39 with f1_ f2_ f3_; have f4_ := f1_.symm; have f5_ := f3_.symm; clear f1_ f2_ f3_; subst f4_; subst f5_))
        obtain ⟨Ao40, co40, eo40⟩ := Kd.V_slice HO682.out
        (first | subst eo40 | (injection eo40 with f1_ f2_ f3_; have f4_ := f1_.symm; have f5_ := f3_.symm; clear f1_ f2_ f3_; subst f4_; subst f5_))
        refine nx_ ⟨(blk_cell BK663.out 0).trans rfl, (blk_cell BK663.out 1).trans rfl, (blk_cell BK663.out 2).trans rfl, (blk_cell BK663.out 3).trans rfl, (blk_cell BK665.out 0).trans rfl, (blk_cell BK665.out 1).trans rfl, (blk_cell BK665.out 2).trans rfl, (blk_cell BK665.out 3).trans rfl, (mv_ HB hw666_0), (mv_ HB hw666_1)⟩ (fun hHeld => ?_)
        refine cB_1 9 Try.func61 (args := #[.agg #[.bool x664000_1, .slice Ao37 x664001_1.length co37, .bool x664002_1, .slice Ao38 x664003_1.length co38], .agg #[.bool t675, .slice Ao39 t676.length co39, .bool t679, .slice Ao40 t680.length co40]]) ?_
        with_reducible refine (frac_Add.calls x664000_1 _ _ x664001_1 x664002_1 _ _ x664003_1 t675 _ _ t676 t679 _ _ t680 t683 t684 t687 t688 _ ?side1 ?side2 ?side3 ?side4 ?side5 ?side6 ?side7 ?side8 A25.out).mono ?_
        (case side1 => exact cA_ (Kd.V_reads' HO_664001.out).2.2)
        (case side2 => exact (Kd.V_reads' HO_664001.out).2.1)
        (case side3 => exact cA_ (Kd.V_reads' HO_664003.out).2.2)
        (case side4 => exact (Kd.V_reads' HO_664003.out).2.1)
        (case side5 => exact cA_ (Kd.V_reads' HO678.out).2.2)
        (case side6 => exact (Kd.V_reads' HO678.out).2.1)
        (case side7 => exact cA_ (Kd.V_reads' HO682.out).2.2)
        (case side8 => exact (Kd.V_reads' HO682.out).2.1)
        rintro e w41 ⟨v685, v689, rfl, ho0, ho1, hb⟩
        refine ⟨_, rfl, ?_⟩
        have HO686 := Aside0.mk (Kd.V_lower (Kd.V_mono (ok' := fun k_ => ((P1_1_ k_ ∨ P1_3_ k_) ∨ w.heap.size ≤ k_) ∧ some k_ ≠ (.slice (some ad664) t651.length co18 : Value).ownBlock ∧ k_ ≠ gb649 ∧ k_ ≠ gb650 ∧ k_ ≠ gb663 ∧ k_ ≠ gb665) ho0 (fun k_ hk_ => ⟨(.inr (Nat.le_trans (below_size m_11) hk_)), (Kd.fresh' (Kd.N_lt m_51) k_ hk_), (Kd.freshB (bA_ BK649.out) k_ hk_), (Kd.freshB (bA_ BK650.out) k_ hk_), (Kd.freshB (bA_ BK663.out) k_ hk_), (Kd.freshB (bA_ BK665.out) k_ hk_)⟩)) (below_size m_11))
        have HO690 := Aside0.mk (Kd.V_lower (Kd.V_mono (ok' := fun k_ => ((P1_1_ k_ ∨ P1_3_ k_) ∨ w.heap.size ≤ k_) ∧ some k_ ≠ (.slice (some ad664) t651.length co18 : Value).ownBlock ∧ k_ ≠ gb649 ∧ k_ ≠ gb650 ∧ k_ ≠ gb663 ∧ k_ ≠ gb665) ho1 (fun k_ hk_ => ⟨(.inr (Nat.le_trans (below_size m_11) hk_)), (Kd.fresh' (Kd.N_lt m_51) k_ hk_), (Kd.freshB (bA_ BK649.out) k_ hk_), (Kd.freshB (bA_ BK650.out) k_ hk_), (Kd.freshB (bA_ BK663.out) k_ hk_), (Kd.freshB (bA_ BK665.out) k_ hk_)⟩)) (below_size m_11))
        replace HO_22 := Aside0.mk (Kd.N_below m_51 hb)
        replace HO_650001 := vB_ HO_650001 hb
        replace HO_650003 := vB_ HO_650003 hb
        replace BK649 := bB_ BK649 hb
        replace BK650 := bB_ BK650 hb
        replace BK663 := bB_ BK663 hb
        replace BK665 := bB_ BK665 hb
        replace HB := Aside0.mk (below_step m_11 hb)
        (try clear hb); (try clear hb2); (try clear hk); (try clear hi); (try clear ho0); (try clear ho1)
        obtain ⟨Ao43, co43, eo43⟩ := Kd.V_slice HO686.out
        (first | subst eo43 | (injection eo43 with f1_ f2_ f3_; have f4_ := f1_.symm; have f5_ := f3_.symm; clear f1_ f2_ f3_; subst f4_; subst f5_))
        obtain ⟨Ao46, co46, eo46⟩ := Kd.V_slice HO690.out
        (first | subst eo46 | (injection eo46 with f1_ f2_ f3_; have f4_ := f1_.symm; have f5_ := f3_.symm; clear f1_ f2_ f3_; subst f4_; subst f5_))
        refine nx_ ⟨(blk_cell BK663.out 0).trans rfl, (blk_cell BK663.out 1).trans rfl, (blk_cell BK663.out 2).trans rfl, (blk_cell BK663.out 3).trans rfl, (blk_cell BK665.out 0).trans rfl, (blk_cell BK665.out 1).trans rfl, (blk_cell BK665.out 2).trans rfl, (blk_cell BK665.out 3).trans rfl, (mv_ HB hw666_0), (mv_ HB hw666_1)⟩ (fun hHeld => ?_)
        refine last_ (i := 10) (N := none) #[true, true, true, true, true, true, true, true, true, true, true] rfl rfl (one_of HT_.out m_13) (by decide) (fun K hK => ?_)
        have hfs42 := blk_frozen BK663.out 0
        have hfs44 := blk_frozen BK663.out 1
        have hfs45 := blk_frozen BK663.out 2
        have hfs47 := blk_frozen BK663.out 3
        refine skip_ (w1 := ?_) (by rfl) rfl ?_ ?_
        rotate_left
        ·go_simp
         rfl
        refine hK.out _ _ ?_
        clear hK K
        refine done_ (done_of HT_.out m_13) ?_
        try go_wp2
        go_roundg k1
        case measure => have := HK1.out; omega
        case rel => exact ⟨(wrap64 (x24_1 + 1)), (t683), (t684), (t687), (t688), (.slice Ao43 t684.length co43), (.slice Ao46 t688.length co46), m_9, H', ⟨m_119⟩, ⟨(by (with_reducible repeat (first | apply Kd.N_alloc | apply Kd.N_drewN | apply Kd.N_drew)); exact Kd.N_mono (Kd.N_far (p := ⟨gb663, 3, none⟩) (Kd.N_far (p := ⟨gb663, 2, none⟩) (Kd.N_far (p := ⟨gb663, 1, none⟩) (Kd.N_far (p := ⟨gb663, 0, none⟩) (Kd.N_mono HO_22.out (fun k_ hk => (⟨hk, hk.2.2.2.1⟩ : _ ∧ k_ ≠ gb663))) (fun _ hk => hk.2) (.bool t683)) (fun _ hk => hk.2) (.slice Ao43 t684.length co43)) (fun _ hk => hk.2) (.bool t687)) (fun _ hk => hk.2) (.slice Ao46 t688.length co46)) (fun _ hk => ⟨hk.1.1, ⟨hk.1.2.1, ⟨hk.1.2.2.1, hk.1.2.2.2.1⟩⟩⟩))⟩, ⟨(by (with_reducible repeat (first | apply Kd.V_alloc | apply Kd.V_drewN | apply Kd.V_drew)); exact Kd.V_mono (Kd.V_far (p := ⟨gb663, 3, none⟩) (Kd.V_far (p := ⟨gb663, 2, none⟩) (Kd.V_far (p := ⟨gb663, 1, none⟩) (Kd.V_far (p := ⟨gb663, 0, none⟩) (Kd.V_mono HO_650001.out (fun k_ hk => (⟨hk, hk.2.2.2.2.1⟩ : _ ∧ k_ ≠ gb663))) (fun _ hk => hk.2) (.bool t683)) (fun _ hk => hk.2) (.slice Ao43 t684.length co43)) (fun _ hk => hk.2) (.bool t687)) (fun _ hk => hk.2) (.slice Ao46 t688.length co46)) (fun _ hk => ⟨hk.1.1, ⟨hk.1.2.1, ⟨hk.1.2.2.1, ⟨hk.1.2.2.2.1, hk.1.2.2.2.2.1⟩⟩⟩⟩))⟩, ⟨(by (with_reducible repeat (first | apply Kd.V_alloc | apply Kd.V_drewN | apply Kd.V_drew)); exact Kd.V_mono (Kd.V_far (p := ⟨gb663, 3, none⟩) (Kd.V_far (p := ⟨gb663, 2, none⟩) (Kd.V_far (p := ⟨gb663, 1, none⟩) (Kd.V_far (p := ⟨gb663, 0, none⟩) (Kd.V_mono HO_650003.out (fun k_ hk => (⟨hk, hk.2.2.2.2.1⟩ : _ ∧ k_ ≠ gb663))) (fun _ hk => hk.2) (.bool t683)) (fun _ hk => hk.2) (.slice Ao43 t684.length co43)) (fun _ hk => hk.2) (.bool t687)) (fun _ hk => hk.2) (.slice Ao46 t688.length co46)) (fun _ hk => ⟨hk.1.1, ⟨hk.1.2.1, ⟨hk.1.2.2.1, ⟨hk.1.2.2.2.1, hk.1.2.2.2.2.1⟩⟩⟩⟩))⟩, ⟨(by (with_reducible repeat (first | apply Kd.V_alloc | apply Kd.V_drewN | apply Kd.V_drew)); exact Kd.V_mono (Kd.V_far (p := ⟨gb663, 3, none⟩) (Kd.V_far (p := ⟨gb663, 2, none⟩) (Kd.V_far (p := ⟨gb663, 1, none⟩) (Kd.V_far (p := ⟨gb663, 0, none⟩) (Kd.V_mono HO686.out (fun k_ hk => (⟨hk, hk.2.2.2.2.1⟩ : _ ∧ k_ ≠ gb663))) (fun _ hk => hk.2) (.bool t683)) (fun _ hk => hk.2) (.slice Ao43 t684.length co43)) (fun _ hk => hk.2) (.bool t687)) (fun _ hk => hk.2) (.slice Ao46 t688.length co46)) (fun _ hk => ⟨hk.1.1, ⟨hk.1.2.1, ⟨hk.1.2.2.1, ⟨hk.1.2.2.2.1, hk.1.2.2.2.2.1⟩⟩⟩⟩))⟩, ⟨(by (with_reducible repeat (first | apply Kd.V_alloc | apply Kd.V_drewN | apply Kd.V_drew)); exact Kd.V_mono (Kd.V_far (p := ⟨gb663, 3, none⟩) (Kd.V_far (p := ⟨gb663, 2, none⟩) (Kd.V_far (p := ⟨gb663, 1, none⟩) (Kd.V_far (p := ⟨gb663, 0, none⟩) (Kd.V_mono HO690.out (fun k_ hk => (⟨hk, hk.2.2.2.2.1⟩ : _ ∧ k_ ≠ gb663))) (fun _ hk => hk.2) (.bool t683)) (fun _ hk => hk.2) (.slice Ao43 t684.length co43)) (fun _ hk => hk.2) (.bool t687)) (fun _ hk => hk.2) (.slice Ao46 t688.length co46)) (fun _ hk => ⟨hk.1.1, ⟨hk.1.2.1, ⟨hk.1.2.2.1, ⟨hk.1.2.2.2.1, hk.1.2.2.2.2.1⟩⟩⟩⟩))⟩, ⟨m_66⟩, ⟨m_65⟩, ⟨(by (with_reducible repeat (first | refine blk_drewN ?_ _ | refine blk_drew ?_ | refine blk_alloc ?_ _)); refine blk_put (cs := #[.bool t683, .slice Ao43 t684.length co43, .bool t687, .slice Ao38 x664003_1.length co38]) ?_ 3 _ rfl; (with_reducible repeat (first | refine blk_drewN ?_ _ | refine blk_drew ?_ | refine blk_alloc ?_ _)); refine blk_put (cs := #[.bool t683, .slice Ao43 t684.length co43, .bool x664002_1, .slice Ao38 x664003_1.length co38]) ?_ 2 _ rfl; (with_reducible repeat (first | refine blk_drewN ?_ _ | refine blk_drew ?_ | refine blk_alloc ?_ _)); refine blk_put (cs := #[.bool t683, .slice Ao37 x664001_1.length co37, .bool x664002_1, .slice Ao38 x664003_1.length co38]) ?_ 1 _ rfl; (with_reducible repeat (first | refine blk_drewN ?_ _ | refine blk_drew ?_ | refine blk_alloc ?_ _)); refine blk_put (cs := #[.bool x664000_1, .slice Ao37 x664001_1.length co37, .bool x664002_1, .slice Ao38 x664003_1.length co38]) ?_ 0 _ rfl; (with_reducible repeat (first | refine blk_drewN ?_ _ | refine blk_drew ?_ | refine blk_alloc ?_ _)); exact BK663.out)⟩, ⟨m_11⟩⟩
       ·rw [if_neg c22] at H
        exact absurd H (by simp)
      ·rw [if_neg c21] at H
       exact absurd H (by simp)
     ·rw [if_neg c20] at H
      exact absurd H (by simp)
    ·rw [if_neg c19] at H
     have c19b0 : decide (x24_1 < (t651.length : Int)) = false := decide_eq_false c19
     clear c19
     simp only [Option.some.injEq, Prod.mk.injEq] at H
     obtain ⟨rfl, rfl, rfl, rfl, rfl⟩ := H
     obtain ⟨hcz50_0, hcz50_1, hcz50_2, hcz50_3, hfz50_0, hfz50_1, hfz50_2, hfz50_3⟩ := cf4_ BK663
     obtain ⟨hcz52_0, hcz52_1, hcz52_2, hcz52_3, hfz52_0, hfz52_1, hfz52_2, hfz52_3⟩ := cf4_ BK650
     obtain ⟨Ao53, co53, eo53⟩ := Kd.V_slice HO_664001.out
     subst eo53
     obtain ⟨Ao54, co54, eo54⟩ := Kd.V_slice HO_664003.out
     subst eo54
     go_wp2
     refine bodyPost_ret (results_ct rfl _ _ gb650 66 #[.bool x664000_1, .slice Ao53 x664001_1.length co53, .bool x664002_1, .slice Ao54 x664003_1.length co54] (0, 0) _ rfl (by (with_reducible repeat (first | refine blk_drewN ?_ _ | refine blk_drew ?_ | refine blk_alloc ?_ _)); refine blk_put (cs := #[.bool x664000_1, .slice Ao53 x664001_1.length co53, .bool x664002_1, .slice none 0 0]) ?_ 3 _ rfl; (with_reducible repeat (first | refine blk_drewN ?_ _ | refine blk_drew ?_ | refine blk_alloc ?_ _)); refine blk_put (cs := #[.bool x664000_1, .slice Ao53 x664001_1.length co53, .bool false, .slice none 0 0]) ?_ 2 _ rfl; (with_reducible repeat (first | refine blk_drewN ?_ _ | refine blk_drew ?_ | refine blk_alloc ?_ _)); refine blk_put (cs := #[.bool x664000_1, .slice none 0 0, .bool false, .slice none 0 0]) ?_ 1 _ rfl; (with_reducible repeat (first | refine blk_drewN ?_ _ | refine blk_drew ?_ | refine blk_alloc ?_ _)); refine blk_put (cs := #[.bool false, .slice none 0 0, .bool false, .slice none 0 0]) ?_ 0 _ rfl; (with_reducible repeat (first | refine blk_drewN ?_ _ | refine blk_drew ?_ | refine blk_alloc ?_ _)); exact BK650.out) Try.underlying66 rfl m_13) rfl ?_
     exact ⟨_, _, m_5, (by (with_reducible repeat (first | apply Kd.V_alloc | apply Kd.V_drewN | apply Kd.V_drew)); exact Kd.V_mono (Kd.V_far (p := ⟨gb650, 3, none⟩) (Kd.V_far (p := ⟨gb650, 2, none⟩) (Kd.V_far (p := ⟨gb650, 1, none⟩) (Kd.V_far (p := ⟨gb650, 0, none⟩) (Kd.V_mono HO_664001.out (fun k_ hk => (⟨hk, hk.2.2.2.1⟩ : _ ∧ k_ ≠ gb650))) (fun _ hk => hk.2) (.bool x664000_1)) (fun _ hk => hk.2) (.slice Ao53 x664001_1.length co53)) (fun _ hk => hk.2) (.bool x664002_1)) (fun _ hk => hk.2) (.slice Ao54 x664003_1.length co54)) (fun _ hk => hk.1.1)), (by (with_reducible repeat (first | apply Kd.V_alloc | apply Kd.V_drewN | apply Kd.V_drew)); exact Kd.V_mono (Kd.V_far (p := ⟨gb650, 3, none⟩) (Kd.V_far (p := ⟨gb650, 2, none⟩) (Kd.V_far (p := ⟨gb650, 1, none⟩) (Kd.V_far (p := ⟨gb650, 0, none⟩) (Kd.V_mono HO_664003.out (fun k_ hk => (⟨hk, hk.2.2.2.1⟩ : _ ∧ k_ ≠ gb650))) (fun _ hk => hk.2) (.bool x664000_1)) (fun _ hk => hk.2) (.slice Ao53 x664001_1.length co53)) (fun _ hk => hk.2) (.bool x664002_1)) (fun _ hk => hk.2) (.slice Ao54 x664003_1.length co54)) (fun _ hk => hk.1.1)), m_53⟩
 ·rw [if_neg c4] at H
  cases H
end Go.Proofs.Ytelklgdmhnkenaa.U
namespace Go.Proofs.Ytelklgdmhnkenaa.U
attribute [local go_sem] max2_int min2_int max_two min_two max_three min_three max_four min_four
def energy_part.f (k : Nat) (l0 : List (S99)) (a1 : Int) : Option (Int) := (frac_FromInt64.f a1).bind fun bt691 => ((step_Cost.f k l0 bt691.1 bt691.2.1 bt691.2.2.1 bt691.2.2.2).bind fun bt699 => ((whole_Int64.f bt699.1 bt699.2.1).bind fun bt709 => (some bt709.1)))
set_option maxHeartbeats 8000000 in
set_option maxRecDepth 100000 in
theorem energy_part.calls (k : Nat) (A0 : Option Addr) (c0 : Nat) (l0 : List (S99)) (a1 : Int) (r : Int) (w : World) (hr0 : Kd.C k99 w A0 l0.length l0) (hc0 : l0.length ≤ c0) (h : energy_part.f k l0 a1 = some r) :
  Calls Try.prog 54 #[.slice A0 l0.length c0, .int .i64 a1] w fun e w' => e = .returned (.int .i64 r) ∧ Below w.heap.size w w' := by
 have HR0 := Aside0.mk hr0
 have HC0 := Aside0.mk hc0
 clear hr0 hc0
 have HB := Aside0.mk (Below.refl w.heap.size w)
 have H : ((frac_FromInt64.f a1).bind fun bt691 => ((step_Cost.f k l0 bt691.1 bt691.2.1 bt691.2.2.1 bt691.2.2.2).bind fun bt699 => ((whole_Int64.f bt699.1 bt699.2.1).bind fun bt709 => (some bt709.1)))) = some r := h
 clear h
 replace H := Option.bind_eq_some_iff.mp H
 obtain ⟨⟨t691, t692, t695, t696⟩, A30, H⟩ := H
 replace H : ((step_Cost.f k l0 t691 t692 t695 t696).bind fun bt699 => ((whole_Int64.f bt699.1 bt699.2.1).bind fun bt709 => (some bt709.1))) = some r := H
 have A3 := Aside0.mk A30
 clear A30
 replace H := Option.bind_eq_some_iff.mp H
 obtain ⟨⟨t699, t700, t703, t704, t707⟩, A40, H⟩ := H
 replace H : ((whole_Int64.f t699 t700).bind fun bt709 => (some bt709.1)) = some r := H
 have A4 := Aside0.mk A40
 clear A40
 replace H := Option.bind_eq_some_iff.mp H
 obtain ⟨⟨t709, t710⟩, A50, H⟩ := H
 replace H : (some t709) = some r := H
 have A5 := Aside0.mk A50
 clear A50
 obtain rfl := Option.some.inj H
 go_enter Try.func54, Try.ntmps54
 go_wp2_with (first | ((with_reducible refine gate_callee (f := 39) rfl ?_); refine goesL_ (some 12) rfl rfl Try.func39 m_13 rfl #[.int .i64 a1] rfl m_2 ?_; (with_reducible refine (frac_FromInt64.calls a1 t691 t692 t695 t696 _ A3.out).mono ?_); rintro e w6 ⟨v693, v697, rfl, ho0, ho1, hb⟩; refine ⟨_, rfl, ?_⟩; have HO694 := Aside0.mk (Kd.V_lower (Kd.V_mono (ok' := fun k_ => True) ho0 (fun k_ hk_ => trivial)) (below_size m_1)); have HO698 := Aside0.mk (Kd.V_lower (Kd.V_mono (ok' := fun k_ => True) ho1 (fun k_ hk_ => trivial)) (below_size m_1)); replace HB := Aside0.mk (below_step m_1 hb); clear hb; (try clear ho0); (try clear ho1); obtain ⟨Ao7, co7, eo7⟩ := Kd.V_slice HO694.out; subst eo7; obtain ⟨Ao8, co8, eo8⟩ := Kd.V_slice HO698.out; subst eo8) | ((with_reducible refine gate_callee (f := 38) rfl ?_); refine goesL_ (some 13) rfl rfl Try.func38 m_13 rfl #[.slice A0 l0.length c0, .agg #[.bool t691, .slice Ao7 t692.length co7, .bool t695, .slice Ao8 t696.length co8]] rfl m_2 ?_; (with_reducible refine (step_Cost.calls k _ _ l0 t691 (fun k_ => True) _ _ t692 t695 (fun k_ => True) _ _ t696 t699 t700 t703 t704 t707 _ ?side1 ?side2 ?side3 ?side4 A4.out).mono ?_); (case side1 => exact cA_ (Kd.C_below HR0.out HB.out)); (case side2 => exact HC0.out); (case side3 => exact HO694.out); (case side4 => exact HO698.out); rintro e w9 ⟨v701, v705, rfl, ho0, ho1, hb⟩; refine ⟨_, rfl, ?_⟩; have HO702 := Aside0.mk (Kd.V_lower (Kd.V_mono (ok' := fun k_ => True) ho0 (fun k_ hk_ => trivial)) (below_size m_1)); have HO706 := Aside0.mk (Kd.V_lower (Kd.V_mono (ok' := fun k_ => True) ho1 (fun k_ hk_ => trivial)) (below_size m_1)); replace HB := Aside0.mk (below_step m_1 hb); clear hb; (try clear ho0); (try clear ho1)) | ((with_reducible refine gate_dst (N := 5) rfl ?_); refine box_event ?hg (N := 5) ?hd (cs := #[.bool false, .slice none 0 0, .bool false, .slice none 0 0]) (t := 66) ?hr ?_; (case hd => rfl); (case hg => rfl); (case hr => exact hr_); intro gb708 hg w10 hbox hb; have BK708 := Aside0.mk (hbox); have GE708 := gW_ (w := w) hg m_1; replace HO702 := vE_ HO702 hg hb; replace HO706 := vE_ HO706 hg hb; replace HB := Aside0.mk (below_step m_1 hb); clear hb hbox hg; obtain ⟨hcz11_0, hcz11_1, hcz11_2, hcz11_3, hfz11_0, hfz11_1, hfz11_2, hfz11_3⟩ := cf4_ BK708; obtain ⟨Ao12, co12, eo12⟩ := Kd.V_slice HO702.out; subst eo12; obtain ⟨Ao13, co13, eo13⟩ := Kd.V_slice HO706.out; subst eo13) | ((with_reducible refine gate_callee (f := 68) rfl ?_); refine goesL_ (some 19) rfl rfl Try.func68 m_13 rfl #[.agg #[.bool t699, .slice Ao12 t700.length co12]] rfl m_2 ?_; (with_reducible refine (whole_Int64.calls t699 _ _ t700 t709 t710 _ ?side1 ?side2 A5.out).mono ?_); (case side1 => refine (Kd.V_reads' (e := 117) (base := w.heap.size) (ok := fun k_ => (True ∧ k_ ≠ gb708)) (n := t700.length) (c := co12) ?_).2.2; exact m_72); (case side2 => exact (Kd.V_reads' HO702.out).2.1); rintro e w14 ⟨rfl, hb⟩; refine ⟨_, rfl, ?_⟩; replace HB := Aside0.mk (below_step m_131 hb); clear hb; (try clear hk)))
 go_ret
 exact ⟨m_5, m_131⟩
end Go.Proofs.Ytelklgdmhnkenaa.U
namespace Go.Proofs.Ytelklgdmhnkenaa.U
attribute [local go_sem] max2_int min2_int max_two min_two max_three min_three max_four min_four
def unit_within_int.f (a0 : Int) (a1 : Int) (a2 : Int) : Option (Bool) := if a0 ≥ a1 then (some (decide (a0 ≤ a2))) else (some false)
set_option maxHeartbeats 8000000 in
set_option maxRecDepth 100000 in
theorem unit_within_int.calls (a0 : Int) (a1 : Int) (a2 : Int) (r : Bool) (w : World) (h : unit_within_int.f a0 a1 a2 = some r) :
  Calls Try.prog 45 #[.int .i64 a0, .int .i64 a1, .int .i64 a2] w fun e w' => e = .returned (.bool r) ∧ Drawn0 w w' := by
 have H : (if a0 ≥ a1 then (some (decide (a0 ≤ a2))) else (some false)) = some r := h
 clear h
 by_cases c4 : a0 ≥ a1
 ·rw [if_pos c4] at H
  have c4b0 : decide (a1 ≤ a0) = true := decide_eq_true c4
  clear c4
  obtain rfl := Option.some.inj H
  go_enter Try.func45, Try.ntmps45
  go_wp2
  go_ret
  exact ⟨m_9, m_28⟩
 ·rw [if_neg c4] at H
  have c4b0 : decide (a1 ≤ a0) = false := decide_eq_false c4
  clear c4
  obtain rfl := Option.some.inj H
  go_enter Try.func45, Try.ntmps45
  go_wp2
  go_ret
  exact ⟨m_9, m_28⟩
end Go.Proofs.Ytelklgdmhnkenaa.U
namespace Go.Proofs.Ytelklgdmhnkenaa.U
attribute [local go_sem] max2_int min2_int max_two min_two max_three min_three max_four min_four
def unit_within_int64.f (a0 : Int) (a1 : Int) (a2 : Int) : Option (Bool) := if a0 ≥ a1 then (some (decide (a0 ≤ a2))) else (some false)
set_option maxHeartbeats 8000000 in
set_option maxRecDepth 100000 in
theorem unit_within_int64.calls (a0 : Int) (a1 : Int) (a2 : Int) (r : Bool) (w : World) (h : unit_within_int64.f a0 a1 a2 = some r) :
  Calls Try.prog 58 #[.int .i64 a0, .int .i64 a1, .int .i64 a2] w fun e w' => e = .returned (.bool r) ∧ Drawn0 w w' := by
 have H : (if a0 ≥ a1 then (some (decide (a0 ≤ a2))) else (some false)) = some r := h
 clear h
 by_cases c4 : a0 ≥ a1
 ·rw [if_pos c4] at H
  have c4b0 : decide (a1 ≤ a0) = true := decide_eq_true c4
  clear c4
  obtain rfl := Option.some.inj H
  go_enter Try.func58, Try.ntmps58
  go_wp2
  go_ret
  exact ⟨m_9, m_28⟩
 ·rw [if_neg c4] at H
  have c4b0 : decide (a1 ≤ a0) = false := decide_eq_false c4
  clear c4
  obtain rfl := Option.some.inj H
  go_enter Try.func58, Try.ntmps58
  go_wp2
  go_ret
  exact ⟨m_9, m_28⟩
end Go.Proofs.Ytelklgdmhnkenaa.U
namespace Go.Proofs.Ytelklgdmhnkenaa.U
attribute [local go_sem] max2_int min2_int max_two min_two max_three min_three max_four min_four
def unit_Max.f (k : Nat) (a0_0 : Int) (a0_1 : Int) (l0_2 : List (S99)) (a0_3 : Int) (a0_4 : Int) (a0_5 : Int) (a0_6 : Int) (a0_7 : Int) (a0_8 : Int) : Option (Int) := (step_CheckOffer.f l0_2).bind fun t108 => (if t108 = 0 then ((step_Sum.f k l0_2).bind fun t109 => (some t109)) else (some 0))
set_option maxHeartbeats 8000000 in
set_option maxRecDepth 100000 in
theorem unit_Max.calls (k : Nat) (a0_0 : Int) (a0_1 : Int) (A0_2 : Option Addr) (c0_2 : Nat) (l0_2 : List (S99)) (a0_3 : Int) (a0_4 : Int) (a0_5 : Int) (a0_6 : Int) (a0_7 : Int) (a0_8 : Int) (r : Int) (w : World) (hr0_2 : Kd.C k99 w A0_2 l0_2.length l0_2) (hc0_2 : l0_2.length ≤ c0_2) (h : unit_Max.f k a0_0 a0_1 l0_2 a0_3 a0_4 a0_5 a0_6 a0_7 a0_8 = some r) :
  Calls Try.prog 37 #[.agg #[.int .i64 a0_0, .int .i64 a0_1, .slice A0_2 l0_2.length c0_2, .int .i64 a0_3, .int .i64 a0_4, .int .i64 a0_5, .int .i64 a0_6, .int .i64 a0_7, .int .i64 a0_8]] w fun e w' => e = .returned (.int .i64 r) ∧ Below w.heap.size w w' := by
 have HR0_2 := Aside0.mk hr0_2
 have HC0_2 := Aside0.mk hc0_2
 clear hr0_2 hc0_2
 have HB := Aside0.mk (Below.refl w.heap.size w)
 have H : ((step_CheckOffer.f l0_2).bind fun t108 => (if t108 = 0 then ((step_Sum.f k l0_2).bind fun t109 => (some t109)) else (some 0))) = some r := h
 clear h
 replace H := Option.bind_eq_some_iff.mp H
 obtain ⟨t108, A20, H⟩ := H
 replace H : (if t108 = 0 then ((step_Sum.f k l0_2).bind fun t109 => (some t109)) else (some 0)) = some r := H
 have A2 := Aside0.mk A20
 clear A20
 by_cases c3 : t108 = 0
 ·rw [if_pos c3] at H
  have c3b1 : (t108 != 0) = false := bne_eq_false_iff_eq.mpr c3
  clear c3
  replace H := Option.bind_eq_some_iff.mp H
  obtain ⟨t109, A40, H⟩ := H
  replace H : (some t109) = some r := H
  have A4 := Aside0.mk A40
  clear A40
  obtain rfl := Option.some.inj H
  go_enter Try.func37, Try.ntmps37
  go_wp2_with (first | ((with_reducible refine gate_dst (N := 1) rfl ?_); refine box_event ?hg (N := 1) ?hd (cs := #[.int .i64 a0_0, .int .i64 a0_1, .slice A0_2 l0_2.length c0_2, .int .i64 a0_3, .int .i64 a0_4, .int .i64 a0_5, .int .i64 a0_6, .int .i64 a0_7, .int .i64 a0_8]) (t := 24) ?hr ?_; (case hd => rfl); (case hg => rfl); (case hr => exact hr_); intro gb107 hg w5 hbox hb; have BK107 := Aside0.mk (hbox); replace HB := Aside0.mk (below_step m_1 hb); clear hb hbox hg; obtain ⟨hcz6_0, hcz6_1, hcz6_2, hcz6_3, hcz6_4, hcz6_5, hcz6_6, hcz6_7, hcz6_8, hfz6_0, hfz6_1, hfz6_2, hfz6_3, hfz6_4, hfz6_5, hfz6_6, hfz6_7, hfz6_8⟩ := cf9_ BK107) | ((with_reducible refine gate_callee (f := 57) rfl ?_); refine goesL_ (some 5) rfl rfl Try.func57 m_13 rfl #[.slice A0_2 l0_2.length c0_2] rfl m_2 ?_; (with_reducible refine (step_CheckOffer.calls _ _ l0_2 t108 _ ?side1 ?side2 A2.out).mono ?_); (case side1 => exact cA_ (Kd.C_below HR0_2.out HB.out)); (case side2 => exact HC0_2.out); rintro e w7 ⟨rfl, hb⟩; refine ⟨_, rfl, ?_⟩; replace BK107 := bB_ BK107 hb; replace HB := Aside0.mk (below_step m_67 hb); clear hb; obtain ⟨hcz8_0, hcz8_1, hcz8_2, hcz8_3, hcz8_4, hcz8_5, hcz8_6, hcz8_7, hcz8_8, hfz8_0, hfz8_1, hfz8_2, hfz8_3, hfz8_4, hfz8_5, hfz8_6, hfz8_7, hfz8_8⟩ := cf9_ BK107) | ((with_reducible refine gate_callee (f := 59) rfl ?_); refine goesL_ (some 9) rfl rfl Try.func59 m_13 rfl #[.slice A0_2 l0_2.length c0_2] rfl m_2 ?_; (with_reducible refine (step_Sum.calls k _ _ l0_2 t109 _ ?side1 ?side2 A4.out).mono ?_); (case side1 => exact cA_ (Kd.C_below HR0_2.out HB.out)); (case side2 => exact HC0_2.out); rintro e w9 ⟨rfl, hb⟩; refine ⟨_, rfl, ?_⟩; replace HB := Aside0.mk (below_step m_67 hb); clear hb))
  go_ret
  exact ⟨m_5, m_67⟩
 ·rw [if_neg c3] at H
  have c3b1 : (t108 != 0) = true := bne_iff_ne.mpr c3
  obtain rfl := Option.some.inj H
  go_enter Try.func37, Try.ntmps37
  go_wp2_with (first | ((with_reducible refine gate_dst (N := 1) rfl ?_); refine box_event ?hg (N := 1) ?hd (cs := #[.int .i64 a0_0, .int .i64 a0_1, .slice A0_2 l0_2.length c0_2, .int .i64 a0_3, .int .i64 a0_4, .int .i64 a0_5, .int .i64 a0_6, .int .i64 a0_7, .int .i64 a0_8]) (t := 24) ?hr ?_; (case hd => rfl); (case hg => rfl); (case hr => exact hr_); intro gb107 hg w10 hbox hb; have BK107 := Aside0.mk (hbox); replace HB := Aside0.mk (below_step m_1 hb); clear hb hbox hg; obtain ⟨hcz11_0, hcz11_1, hcz11_2, hcz11_3, hcz11_4, hcz11_5, hcz11_6, hcz11_7, hcz11_8, hfz11_0, hfz11_1, hfz11_2, hfz11_3, hfz11_4, hfz11_5, hfz11_6, hfz11_7, hfz11_8⟩ := cf9_ BK107) | ((with_reducible refine gate_callee (f := 57) rfl ?_); refine goesL_ (some 5) rfl rfl Try.func57 m_13 rfl #[.slice A0_2 l0_2.length c0_2] rfl m_2 ?_; (with_reducible refine (step_CheckOffer.calls _ _ l0_2 t108 _ ?side1 ?side2 A2.out).mono ?_); (case side1 => exact cA_ (Kd.C_below HR0_2.out HB.out)); (case side2 => exact HC0_2.out); rintro e w12 ⟨rfl, hb⟩; refine ⟨_, rfl, ?_⟩; replace HB := Aside0.mk (below_step m_67 hb); clear hb))
  go_ret
  exact ⟨m_5, m_67⟩
end Go.Proofs.Ytelklgdmhnkenaa.U
