/- Parts of the proof: Uxf38, Uxf54, Uxf45, Uxf58, Uxf37, Uxf34, Uxf49, Uxf50, Uxf23, PlainA, PlainQ, Uxf35, Uxf31, Uxf52, PlainS, Uxf71, Uxf92, Uxf72, Uxf93, Uxf73, GivenSo, GivenAd, GivenCm, GivenRo, PlainP, GivenEx. -/
import Derived.Test.YtelklgdmhnkenaaMEOA
import Derived.Test.YtelklgdmhnkenaaMEOC
import Derived.Test.YtelklgdmhnkenaaMEOB
import Derived.Shelf.SlSortCmp.WholeK
import Derived.Shelf.SlicesG.Cmp
import Derived.Laws.EntriesVeiled
import Derived.MapKept
set_option linter.unusedVariables false
set_option linter.unusedSimpArgs false
open Go.RowKit Go.Proofs.YtelklgdmhnkenaaW.PrintWords Go.Proofs.YtelklgdmhnkenaaW.PrintLast Go.Proofs.YtelklgdmhnkenaaW.PrintMore
namespace Go.Proofs.Ytelklgdmhnkenaa.U
attribute [local go_sem] max2_int min2_int max_two min_two max_three min_three max_four min_four
def step_Cost.l0 : Nat → List (S99) → List (S66) → Int → Int → Bool → List Int → Bool → List Int → Option (Bool × List Int × Bool × List Int × Int)
 | 0, _, _, _, _, _, _, _, _ => none
 | k + 1, x0, x22, x23, x24, x664000, x664001, x664002, x664003 => if x24 < x23 then (if 0 ≤ x24 then (if x24 < (x22.length : Int) then (if x24 < (x0.length : Int) then ((frac_FromInt64.f ((rd_T99 x0 x24).f1)).bind fun bt667 => ((frac_Mul.f ((rd_T66 x22 x24).f0.f0) ((rd_T66 x22 x24).f0.f1) ((rd_T66 x22 x24).f1.f0) ((rd_T66 x22 x24).f1.f1) bt667.1 bt667.2.1 bt667.2.2.1 bt667.2.2.2).bind fun bt675 => ((frac_Add.f x664000 x664001 x664002 x664003 bt675.1 bt675.2.1 bt675.2.2.1 bt675.2.2.2).bind fun bt683 => (step_Cost.l0 k x0 x22 x23 (wrap64 (x24 + 1)) bt683.1 bt683.2.1 bt683.2.2.1 bt683.2.2.2)))) else (none)) else (none)) else (none)) else (some (x664000, x664001, x664002, x664003, 0))
def step_Cost.f (k : Nat) (l0 : List (S99)) (a1_0 : Bool) (l1_1 : List Int) (a1_2 : Bool) (l1_3 : List Int) : Option (Bool × List Int × Bool × List Int × Int) := (step_Allocate.f k l0 a1_0 l1_1 a1_2 l1_3).bind fun bt651 => (if bt651.2 = 0 then ((frac_FromInt64.f 0).bind fun bt655 => (step_Cost.l0 k l0 bt651.1 (bt651.1.length : Int) 0 bt655.1 bt655.2.1 bt655.2.2.1 bt655.2.2.2)) else (none))
def step_Cost.T8 : Bool × List (List Nat × List Nat) := (true, [([], []), ([], []), ([], []), ([], []), ([2, 3], [2, 3]), ([4], [4]), ([5], [5]), ([6], [6]), ([1, 7, 7], [1, 7]), ([0, 8, 8], [0, 8]), ([9, 9, 0, 1, 2, 3, 4, 5, 6, 7, 8, 9], [9])])
def step_Cost.B8 : List Nat := [0, 0, 0, 0, 12, 28, 60, 124, 254, 511, 1023]
theorem step_Cost.tab8 : rtab .any (opsOf Try.f38 8) = step_Cost.T8 := by kernel_rfl
theorem step_Cost.bits8 : waitsOk step_Cost.T8.2 step_Cost.B8 = true := by kernel_rfl
set_option maxHeartbeats 8000000 in
set_option maxRecDepth 100000 in
theorem step_Cost.calls (k : Nat) (A0 : Option Addr) (c0 : Nat) (l0 : List (S99)) (a1_0 : Bool) (P1_1_ : Nat → Prop) (A1_1 : Option Addr) (c1_1 : Nat) (l1_1 : List Int) (a1_2 : Bool) (P1_3_ : Nat → Prop) (A1_3 : Option Addr) (c1_3 : Nat) (l1_3 : List Int) (r1 : Bool) (r2 : List Int) (r3 : Bool) (r4 : List Int) (r5 : Int) (w : World) (hr0 : Kd.C k99 w A0 l0.length l0) (hc0 : l0.length ≤ c0) (hs1_1 : Kd.V (Kd.int .u32) 117 w w.heap.size (fun k_ => P1_1_ k_) (.slice A1_1 l1_1.length c1_1) l1_1) (hs1_3 : Kd.V (Kd.int .u32) 117 w w.heap.size (fun k_ => P1_3_ k_) (.slice A1_3 l1_3.length c1_3) l1_3) (h : step_Cost.f k l0 a1_0 l1_1 a1_2 l1_3 = some (r1, r2, r3, r4, r5)) :
  Calls Try.prog 38 #[.slice A0 l0.length c0, .agg #[.bool a1_0, .slice A1_1 l1_1.length c1_1, .bool a1_2, .slice A1_3 l1_3.length c1_3]] w fun e w' => ∃ v1_ v3_ : Value, e = .returned (.tuple #[.agg #[.bool r1, v1_, .bool r3, v3_], .int .i64 r5]) ∧ Kd.V (Kd.int .u32) 117 w' w.heap.size (fun k_ => ((P1_1_ k_ ∨ P1_3_ k_) ∨ w.heap.size ≤ k_)) v1_ r2 ∧ Kd.V (Kd.int .u32) 117 w' w.heap.size (fun k_ => ((P1_1_ k_ ∨ P1_3_ k_) ∨ w.heap.size ≤ k_)) v3_ r4 ∧ Below w.heap.size w w' := by
 have HR0 := Aside0.mk hr0
 have HC0 := Aside0.mk hc0
 clear hr0 hc0
 have HO1_1 := Aside0.mk (show Kd.V (Kd.int .u32) 117 w w.heap.size (fun k_ => ((P1_1_ k_ ∨ P1_3_ k_) ∨ w.heap.size ≤ k_)) (.slice A1_1 l1_1.length c1_1) l1_1 from Kd.V_mono hs1_1 (fun k_ hk => .inl (.inl hk)))
 have HO1_3 := Aside0.mk (show Kd.V (Kd.int .u32) 117 w w.heap.size (fun k_ => ((P1_1_ k_ ∨ P1_3_ k_) ∨ w.heap.size ≤ k_)) (.slice A1_3 l1_3.length c1_3) l1_3 from Kd.V_mono hs1_3 (fun k_ hk => .inl (.inr hk)))
 have HB := Aside0.mk (Below.refl w.heap.size w)
 have H : ((step_Allocate.f k l0 a1_0 l1_1 a1_2 l1_3).bind fun bt651 => (if bt651.2 = 0 then ((frac_FromInt64.f 0).bind fun bt655 => (step_Cost.l0 k l0 bt651.1 (bt651.1.length : Int) 0 bt655.1 bt655.2.1 bt655.2.2.1 bt655.2.2.2)) else (none))) = some (r1, r2, r3, r4, r5) := h
 clear h
 replace H := Option.bind_eq_some_iff.mp H
 obtain ⟨⟨t651, t654⟩, A30, H⟩ := H
 replace H : (if t654 = 0 then ((frac_FromInt64.f 0).bind fun bt655 => (step_Cost.l0 k l0 t651 (t651.length : Int) 0 bt655.1 bt655.2.1 bt655.2.2.1 bt655.2.2.2)) else (none)) = some (r1, r2, r3, r4, r5) := H
 have A3 := Aside0.mk A30
 clear A30
 by_cases c4 : t654 = 0
 ·rw [if_pos c4] at H
  have c4b1 : (t654 != 0) = false := bne_eq_false_iff_eq.mpr c4
  clear c4
  replace H := Option.bind_eq_some_iff.mp H
  obtain ⟨⟨t655, t656, t659, t660⟩, A50, H⟩ := H
  replace H : (step_Cost.l0 k l0 t651 (t651.length : Int) 0 t655 t656 t659 t660) = some (r1, r2, r3, r4, r5) := H
  have A5 := Aside0.mk A50
  clear A50
  have H' := Aside0.mk H
  clear H
  go_enter Try.func38, Try.ntmps38
  go_wp2_with (first | ((with_reducible refine gate_dst (N := 3) rfl ?_); refine box_event ?hg (N := 3) ?hd (cs := #[.bool a1_0, .slice A1_1 l1_1.length c1_1, .bool a1_2, .slice A1_3 l1_3.length c1_3]) (t := 66) ?hr ?_; (case hd => rfl); (case hg => rfl); (case hr => exact hr_); intro gb649 hg w6 hbox hb; have BK649 := Aside0.mk (hbox); replace HO1_1 := vE_ HO1_1 hg hb; replace HO1_3 := vE_ HO1_3 hg hb; replace HB := Aside0.mk (below_step m_1 hb); clear hb hbox hg) | ((with_reducible refine gate_dst (N := 4) rfl ?_); refine box_event ?hg (N := 4) ?hd (cs := #[.bool false, .slice none 0 0, .bool false, .slice none 0 0]) (t := 66) ?hr ?_; (case hd => rfl); (case hg => rfl); (case hr => exact hr_); intro gb650 hg w7 hbox hb; have BK650 := Aside0.mk (hbox); have GE650 := gW_ (w := w) hg m_98; replace HO1_1 := vE_ HO1_1 hg hb; replace HO1_3 := vE_ HO1_3 hg hb; replace BK649 := bB_ BK649 hb; replace HB := Aside0.mk (below_step m_98 hb); clear hb hbox hg; obtain ⟨hcz9_0, hcz9_1, hcz9_2, hcz9_3, hfz9_0, hfz9_1, hfz9_2, hfz9_3⟩ := cf4_ BK649) | ((with_reducible refine gate_callee (f := 60) rfl ?_); refine goesL_ (some 14) rfl rfl Try.func60 m_19 rfl #[.slice A0 l0.length c0, .agg #[.bool a1_0, .slice A1_1 l1_1.length c1_1, .bool a1_2, .slice A1_3 l1_3.length c1_3]] rfl m_2 ?_; (with_reducible refine (step_Allocate.calls k _ _ l0 a1_0 (fun k_ => ((((P1_1_ k_ ∨ P1_3_ k_) ∨ w.heap.size ≤ k_) ∧ k_ ≠ gb649) ∧ k_ ≠ gb650)) _ _ l1_1 a1_2 (fun k_ => ((((P1_1_ k_ ∨ P1_3_ k_) ∨ w.heap.size ≤ k_) ∧ k_ ≠ gb649) ∧ k_ ≠ gb650)) _ _ l1_3 t651 t654 _ ?side1 ?side2 ?side3 ?side4 A3.out).mono ?_); (case side1 => exact cA_ (Kd.C_below HR0.out HB.out)); (case side2 => exact HC0.out); (case side3 => exact HO1_1.out); (case side4 => exact HO1_3.out); rintro e w10 ⟨v652, rfl, ho0, hb⟩; refine ⟨_, rfl, ?_⟩; have HO653 := Aside0.mk (Kd.N_lower (Kd.N_mono (ok' := fun k_ => ((P1_1_ k_ ∨ P1_3_ k_) ∨ w.heap.size ≤ k_) ∧ k_ ≠ gb649 ∧ k_ ≠ gb650) ho0 (fun k_ hk_ => ⟨Or.elim hk_ (fun hs_ => Or.elim hs_ (fun hs_ => hs_.1.1) (fun hs_ => hs_.1.1)) (fun hn_ => (.inr (Nat.le_trans (below_size m_26) hn_))), Or.elim hk_ (fun hs_ => Or.elim hs_ (fun hs_ => hs_.1.2) (fun hs_ => hs_.1.2)) (fun hn_ => (Kd.freshB (bA_ BK649.out) k_ hn_)), Or.elim hk_ (fun hs_ => Or.elim hs_ (fun hs_ => hs_.2) (fun hs_ => hs_.2)) (fun hn_ => (Kd.freshB (bA_ BK650.out) k_ hn_))⟩)) (below_size m_26)); replace HO1_1 := Aside0.mk (Kd.V_elder' (vA_ HO1_1.out) (Kd.N_base ho0) hb); replace HO1_3 := Aside0.mk (Kd.V_elder' (vA_ HO1_3.out) (Kd.N_base ho0) hb); replace BK649 := bB_ BK649 hb; replace BK650 := bB_ BK650 hb; replace HB := Aside0.mk (below_step m_26 hb); clear hb; (try clear ho0)) | ((with_reducible refine gate_callee (f := 39) rfl ?_); refine goesL_ (some 21) rfl rfl Try.func39 m_19 rfl #[.int .i64 0] rfl m_2 ?_; (with_reducible refine (frac_FromInt64.calls 0 t655 t656 t659 t660 _ A5.out).mono ?_); rintro e w11 ⟨v657, v661, rfl, ho0, ho1, hb⟩; refine ⟨_, rfl, ?_⟩; have HO658 := Aside0.mk (Kd.V_lower (Kd.V_mono (ok' := fun k_ => ((P1_1_ k_ ∨ P1_3_ k_) ∨ w.heap.size ≤ k_) ∧ some k_ ≠ (v652 : Value).ownBlock ∧ k_ ≠ gb649 ∧ k_ ≠ gb650) ho0 (fun k_ hk_ => ⟨(.inr (Nat.le_trans (below_size m_26) hk_)), (Kd.fresh' (Kd.N_lt m_110) k_ hk_), (Kd.freshB (bA_ BK649.out) k_ hk_), (Kd.freshB (bA_ BK650.out) k_ hk_)⟩)) (below_size m_26)); have HO662 := Aside0.mk (Kd.V_lower (Kd.V_mono (ok' := fun k_ => ((P1_1_ k_ ∨ P1_3_ k_) ∨ w.heap.size ≤ k_) ∧ some k_ ≠ (v652 : Value).ownBlock ∧ k_ ≠ gb649 ∧ k_ ≠ gb650) ho1 (fun k_ hk_ => ⟨(.inr (Nat.le_trans (below_size m_26) hk_)), (Kd.fresh' (Kd.N_lt m_110) k_ hk_), (Kd.freshB (bA_ BK649.out) k_ hk_), (Kd.freshB (bA_ BK650.out) k_ hk_)⟩)) (below_size m_26)); replace HO1_1 := vB_ HO1_1 hb; replace HO1_3 := vB_ HO1_3 hb; replace HO653 := Aside0.mk (Kd.N_below m_110 hb); replace BK649 := bB_ BK649 hb; replace BK650 := bB_ BK650 hb; replace HB := Aside0.mk (below_step m_26 hb); clear hb; (try clear ho0); (try clear ho1)) | ((with_reducible refine gate_dst (N := 8) rfl ?_); refine box_event ?hg (N := 8) ?hd (cs := #[.bool false, .slice none 0 0, .bool false, .slice none 0 0]) (t := 66) ?hr ?_; (case hd => rfl); (case hg => rfl); (case hr => exact hr_); intro gb663 hg w12 hbox hb; have BK663 := Aside0.mk (hbox); have GE663 := gW_ (w := w) hg m_26; have NB649_663 := nl_ BK649 hg; have NB650_663 := nl_ BK650 hg; replace HO1_1 := vE_ HO1_1 hg hb; replace HO1_3 := vE_ HO1_3 hg hb; replace HO653 := Aside0.mk (Kd.N_below (Kd.N_elderB m_110 gb663 (Nat.le_of_eq hg.symm)) hb); replace HO658 := vE_ HO658 hg hb; replace HO662 := vE_ HO662 hg hb; replace BK649 := bB_ BK649 hb; replace BK650 := bB_ BK650 hb; replace HB := Aside0.mk (below_step m_26 hb); clear hb hbox hg; obtain ⟨hcz15_0, hcz15_1, hcz15_2, hcz15_3, hfz15_0, hfz15_1, hfz15_2, hfz15_3⟩ := cf4_ BK663; obtain ⟨Ao16, co16, eo16⟩ := Kd.V_slice HO658.out; subst eo16; obtain ⟨Ao17, co17, eo17⟩ := Kd.V_slice HO662.out; subst eo17; obtain ⟨Ao18, co18, eo18⟩ := Kd.N_slice HO653.out; subst eo18))
  go_loopg [24] k (fun kq v24 w' => ∃ (x24_1 : Int) (x664000_1 : Bool) (x664001_1 : List Int) (x664002_1 : Bool) (x664003_1 : List Int) (u664001 : Value) (u664003 : Value), v24 = .int .i64 x24_1 ∧ Aside0 (step_Cost.l0 kq l0 t651 (t651.length : Int) x24_1 x664000_1 x664001_1 x664002_1 x664003_1 = some (r1, r2, r3, r4, r5)) ∧ Aside0 (kq ≤ k) ∧ Aside0 (Kd.N k66 66 w' w.heap.size (fun k_ => ((P1_1_ k_ ∨ P1_3_ k_) ∨ w.heap.size ≤ k_) ∧ k_ ≠ gb649 ∧ k_ ≠ gb650 ∧ k_ ≠ gb663) (.slice Ao18 t651.length co18) t651) ∧ Aside0 (Kd.V (Kd.int .u32) 117 w' w.heap.size (fun k_ => ((P1_1_ k_ ∨ P1_3_ k_) ∨ w.heap.size ≤ k_) ∧ some k_ ≠ ((.slice Ao18 t651.length co18) : Value).ownBlock ∧ k_ ≠ gb649 ∧ k_ ≠ gb650 ∧ k_ ≠ gb663) (.slice A1_1 l1_1.length c1_1) l1_1) ∧ Aside0 (Kd.V (Kd.int .u32) 117 w' w.heap.size (fun k_ => ((P1_1_ k_ ∨ P1_3_ k_) ∨ w.heap.size ≤ k_) ∧ some k_ ≠ ((.slice Ao18 t651.length co18) : Value).ownBlock ∧ k_ ≠ gb649 ∧ k_ ≠ gb650 ∧ k_ ≠ gb663) (.slice A1_3 l1_3.length c1_3) l1_3) ∧ Aside0 (Kd.V (Kd.int .u32) 117 w' w.heap.size (fun k_ => ((P1_1_ k_ ∨ P1_3_ k_) ∨ w.heap.size ≤ k_) ∧ some k_ ≠ ((.slice Ao18 t651.length co18) : Value).ownBlock ∧ k_ ≠ gb649 ∧ k_ ≠ gb650 ∧ k_ ≠ gb663) u664001 x664001_1) ∧ Aside0 (Kd.V (Kd.int .u32) 117 w' w.heap.size (fun k_ => ((P1_1_ k_ ∨ P1_3_ k_) ∨ w.heap.size ≤ k_) ∧ some k_ ≠ ((.slice Ao18 t651.length co18) : Value).ownBlock ∧ k_ ≠ gb649 ∧ k_ ≠ gb650 ∧ k_ ≠ gb663) u664003 x664003_1) ∧ Aside0 (w'.heap[gb649]? = some (.cells #[.bool a1_0, (.slice A1_1 l1_1.length c1_1), .bool a1_2, (.slice A1_3 l1_3.length c1_3)] 66 (0, 0))) ∧ Aside0 (w'.heap[gb650]? = some (.cells #[.bool false, (.slice none 0 0), .bool false, (.slice none 0 0)] 66 (0, 0))) ∧ Aside0 (w'.heap[gb663]? = some (.cells #[.bool x664000_1, u664001, .bool x664002_1, u664003] 66 (0, 0))) ∧ Aside0 (Below w.heap.size w w'))
  case atStart => exact ⟨(0), (t655), (t656), (t659), (t660), (.slice Ao16 t656.length co16), (.slice Ao17 t660.length co17), m_14, H', ⟨Nat.le_refl _⟩, ⟨(by (with_reducible repeat (first | apply Kd.N_alloc | apply Kd.N_drewN | apply Kd.N_drew)); exact Kd.N_mono (Kd.N_far (p := ⟨gb663, 3, none⟩) (Kd.N_far (p := ⟨gb663, 2, none⟩) (Kd.N_far (p := ⟨gb663, 1, none⟩) (Kd.N_far (p := ⟨gb663, 0, none⟩) (Kd.N_mono HO653.out (fun k_ hk => (⟨hk, hk.2⟩ : _ ∧ k_ ≠ gb663))) (fun _ hk => hk.2) (.bool t655)) (fun _ hk => hk.2) (.slice Ao16 t656.length co16)) (fun _ hk => hk.2) (.bool t659)) (fun _ hk => hk.2) (.slice Ao17 t660.length co17)) (fun _ hk => ⟨hk.1.1.1, ⟨hk.1.1.2.1, ⟨hk.1.1.2.2, hk.1.2⟩⟩⟩))⟩, ⟨(by (with_reducible repeat (first | apply Kd.V_alloc | apply Kd.V_drewN | apply Kd.V_drew)); exact Kd.V_mono (Kd.V_far (p := ⟨gb663, 3, none⟩) (Kd.V_far (p := ⟨gb663, 2, none⟩) (Kd.V_far (p := ⟨gb663, 1, none⟩) (Kd.V_far (p := ⟨gb663, 0, none⟩) (Kd.V_mono HO1_1.out (fun k_ hk => (⟨hk, hk.2⟩ : _ ∧ k_ ≠ gb663))) (fun _ hk => hk.2) (.bool t655)) (fun _ hk => hk.2) (.slice Ao16 t656.length co16)) (fun _ hk => hk.2) (.bool t659)) (fun _ hk => hk.2) (.slice Ao17 t660.length co17)) (fun _ hk => ⟨hk.1.1.1.1.1, ⟨hk.1.1.2, ⟨hk.1.1.1.1.2, ⟨hk.1.1.1.2, hk.1.2⟩⟩⟩⟩))⟩, ⟨(by (with_reducible repeat (first | apply Kd.V_alloc | apply Kd.V_drewN | apply Kd.V_drew)); exact Kd.V_mono (Kd.V_far (p := ⟨gb663, 3, none⟩) (Kd.V_far (p := ⟨gb663, 2, none⟩) (Kd.V_far (p := ⟨gb663, 1, none⟩) (Kd.V_far (p := ⟨gb663, 0, none⟩) (Kd.V_mono HO1_3.out (fun k_ hk => (⟨hk, hk.2⟩ : _ ∧ k_ ≠ gb663))) (fun _ hk => hk.2) (.bool t655)) (fun _ hk => hk.2) (.slice Ao16 t656.length co16)) (fun _ hk => hk.2) (.bool t659)) (fun _ hk => hk.2) (.slice Ao17 t660.length co17)) (fun _ hk => ⟨hk.1.1.1.1.1, ⟨hk.1.1.2, ⟨hk.1.1.1.1.2, ⟨hk.1.1.1.2, hk.1.2⟩⟩⟩⟩))⟩, ⟨(by (with_reducible repeat (first | apply Kd.V_alloc | apply Kd.V_drewN | apply Kd.V_drew)); exact Kd.V_mono (Kd.V_far (p := ⟨gb663, 3, none⟩) (Kd.V_far (p := ⟨gb663, 2, none⟩) (Kd.V_far (p := ⟨gb663, 1, none⟩) (Kd.V_far (p := ⟨gb663, 0, none⟩) (Kd.V_mono HO658.out (fun k_ hk => (⟨hk, hk.2⟩ : _ ∧ k_ ≠ gb663))) (fun _ hk => hk.2) (.bool t655)) (fun _ hk => hk.2) (.slice Ao16 t656.length co16)) (fun _ hk => hk.2) (.bool t659)) (fun _ hk => hk.2) (.slice Ao17 t660.length co17)) (fun _ hk => ⟨hk.1.1.1, ⟨hk.1.1.2.1, ⟨hk.1.1.2.2.1, ⟨hk.1.1.2.2.2, hk.1.2⟩⟩⟩⟩))⟩, ⟨(by (with_reducible repeat (first | apply Kd.V_alloc | apply Kd.V_drewN | apply Kd.V_drew)); exact Kd.V_mono (Kd.V_far (p := ⟨gb663, 3, none⟩) (Kd.V_far (p := ⟨gb663, 2, none⟩) (Kd.V_far (p := ⟨gb663, 1, none⟩) (Kd.V_far (p := ⟨gb663, 0, none⟩) (Kd.V_mono HO662.out (fun k_ hk => (⟨hk, hk.2⟩ : _ ∧ k_ ≠ gb663))) (fun _ hk => hk.2) (.bool t655)) (fun _ hk => hk.2) (.slice Ao16 t656.length co16)) (fun _ hk => hk.2) (.bool t659)) (fun _ hk => hk.2) (.slice Ao17 t660.length co17)) (fun _ hk => ⟨hk.1.1.1, ⟨hk.1.1.2.1, ⟨hk.1.1.2.2.1, ⟨hk.1.1.2.2.2, hk.1.2⟩⟩⟩⟩))⟩, ⟨m_65⟩, ⟨m_64⟩, ⟨(by (with_reducible repeat (first | refine blk_drewN ?_ _ | refine blk_drew ?_ | refine blk_alloc ?_ _)); refine blk_put (cs := #[.bool t655, .slice Ao16 t656.length co16, .bool t659, .slice none 0 0]) ?_ 3 _ rfl; (with_reducible repeat (first | refine blk_drewN ?_ _ | refine blk_drew ?_ | refine blk_alloc ?_ _)); refine blk_put (cs := #[.bool t655, .slice Ao16 t656.length co16, .bool false, .slice none 0 0]) ?_ 2 _ rfl; (with_reducible repeat (first | refine blk_drewN ?_ _ | refine blk_drew ?_ | refine blk_alloc ?_ _)); refine blk_put (cs := #[.bool t655, .slice none 0 0, .bool false, .slice none 0 0]) ?_ 1 _ rfl; (with_reducible repeat (first | refine blk_drewN ?_ _ | refine blk_drew ?_ | refine blk_alloc ?_ _)); refine blk_put (cs := #[.bool false, .slice none 0 0, .bool false, .slice none 0 0]) ?_ 0 _ rfl; (with_reducible repeat (first | refine blk_drewN ?_ _ | refine blk_drew ?_ | refine blk_alloc ?_ _)); exact BK663.out)⟩, ⟨m_52⟩⟩
  case round =>
   clear H'
   (try clear c1); (try clear p2); (try clear c3); (try clear c4); (try skip); (try clear c4b1); (try clear c6); (try clear c8); (try clear c13); (try clear c14); (try clear hcz15_0); (try clear hcz15_1); (try clear hcz15_2); (try clear hcz15_3); (try clear hcz9_0); (try clear hcz9_1); (try clear hcz9_2); (try clear hcz9_3); (try clear hfz15_0); (try clear hfz15_1); (try clear hfz15_2); (try clear hfz15_3); (try clear hfz9_0); (try clear hfz9_1); (try clear hfz9_2); (try clear hfz9_3)
   obtain ⟨x24_1, x664000_1, x664001_1, x664002_1, x664003_1, u664001, u664003, rfl, HA, HK1, HO_22, HO_650001, HO_650003, HO_664001, HO_664003, BK649, BK650, BK663, HB⟩ := hrel
   cases gk with
   | zero => exact absurd HA.out (by simp [step_Cost.l0])
   | succ k1 =>
    have H := HA.out
    clear HA
    simp only [step_Cost.l0] at H
    by_cases c19 : x24_1 < (t651.length : Int)
    ·rw [if_pos c19] at H
     clear c19
     by_cases c20 : 0 ≤ x24_1
     ·rw [if_pos c20] at H
      have c20b0 : decide (0 ≤ x24_1) = true := decide_eq_true c20
      clear c20
      by_cases c21 : x24_1 < (t651.length : Int)
      ·rw [if_pos c21] at H
       have c21b0 : decide (x24_1 < (t651.length : Int)) = true := decide_eq_true c21
       clear c21
       by_cases c22 : x24_1 < (l0.length : Int)
       ·rw [if_pos c22] at H
        have c22b0 : decide (x24_1 < (l0.length : Int)) = true := decide_eq_true c22
        clear c22
        replace H := Option.bind_eq_some_iff.mp H
        obtain ⟨⟨t667, t668, t671, t672⟩, A230, H⟩ := H
        replace H : ((frac_Mul.f ((rd_T66 t651 x24_1).f0.f0) ((rd_T66 t651 x24_1).f0.f1) ((rd_T66 t651 x24_1).f1.f0) ((rd_T66 t651 x24_1).f1.f1) t667 t668 t671 t672).bind fun bt675 => ((frac_Add.f x664000_1 x664001_1 x664002_1 x664003_1 bt675.1 bt675.2.1 bt675.2.2.1 bt675.2.2.2).bind fun bt683 => (step_Cost.l0 k1 l0 t651 (t651.length : Int) (wrap64 (x24_1 + 1)) bt683.1 bt683.2.1 bt683.2.2.1 bt683.2.2.2))) = some (r1, r2, r3, r4, r5) := H
        have A23 := Aside0.mk A230
        clear A230
        replace H := Option.bind_eq_some_iff.mp H
        obtain ⟨⟨t675, t676, t679, t680⟩, A240, H⟩ := H
        replace H : ((frac_Add.f x664000_1 x664001_1 x664002_1 x664003_1 t675 t676 t679 t680).bind fun bt683 => (step_Cost.l0 k1 l0 t651 (t651.length : Int) (wrap64 (x24_1 + 1)) bt683.1 bt683.2.1 bt683.2.2.1 bt683.2.2.2)) = some (r1, r2, r3, r4, r5) := H
        have A24 := Aside0.mk A240
        clear A240
        replace H := Option.bind_eq_some_iff.mp H
        obtain ⟨⟨t683, t684, t687, t688⟩, A250, H⟩ := H
        replace H : (step_Cost.l0 k1 l0 t651 (t651.length : Int) (wrap64 (x24_1 + 1)) t683 t684 t687 t688) = some (r1, r2, r3, r4, r5) := H
        have A25 := Aside0.mk A250
        clear A250
        have H' := Aside0.mk H
        clear H
        have p664 : 0 ≤ (x24_1 : Int) := of_decide_eq_true m_10
        have q664 : x24_1 < (t651.length : Int) := of_decide_eq_true m_10
        obtain ⟨ad664, A664_1, c664_1, A664_3, c664_3, e664, hx664_0, hx664_1, hx664_2, hx664_3, hl664_1, hi664_1, hl664_3, hi664_3⟩ := at_T66 (Kd.N_reads' HO_22.out).2.2 x24_1 p664 q664
        cases e664
        obtain ⟨ce664, hce664, hMe664, hcc664⟩ := Kd.N_get HO_22.out z66 x24_1 p664 (by first | exact q664 | exact of_decide_eq_true m_10 | (have e_ := (Kd.N_reads' HO_22.out).1; omega))
        obtain ⟨ua664_1, uc664_1, ua664_3, uc664_3, rfl, ul664_1, ge664_1, ul664_3, ge664_3⟩ := k66_openF hMe664
        have hv664_1 := hcc664 1 _ rfl
        rw [add_field _ _ 1 (by omega)] at hv664_1
        replace hv664_1 := Option.some.inj (hv664_1.symm.trans hx664_1)
        injection hv664_1 with hva_ hvn_ hvc_
        rw [hva_] at ge664_1
        rw [hvc_] at ul664_1
        have HL664_1 := Aside0.mk (show Kd.V (Kd.int .u32) 117 _ w.heap.size _ _ ((rd_T66 t651 x24_1).f0.f1) from Kd.V_mk ul664_1 ge664_1)
        clear hva_ hvn_ hvc_ ge664_1 ul664_1
        have hv664_3 := hcc664 3 _ rfl
        rw [add_field _ _ 3 (by omega)] at hv664_3
        replace hv664_3 := Option.some.inj (hv664_3.symm.trans hx664_3)
        injection hv664_3 with hva_ hvn_ hvc_
        rw [hva_] at ge664_3
        rw [hvc_] at ul664_3
        have HL664_3 := Aside0.mk (show Kd.V (Kd.int .u32) 117 _ w.heap.size _ _ ((rd_T66 t651 x24_1).f1.f1) from Kd.V_mk ul664_3 ge664_3)
        clear hva_ hvn_ hvc_ ge664_3 ul664_3
        clear hcc664 hce664
        have HC664_1 := Aside0.mk hl664_1
        clear hi664_1 hl664_1
        have HC664_3 := Aside0.mk hl664_3
        clear hi664_3 hl664_3
        replace p664 := eq_true p664
        replace q664 := eq_true q664
        try go_wp2_with (first | ((with_reducible refine gate_dst (N := 10) rfl ?_); refine box_event ?hg (N := 10) ?hd (cs := #[.bool false, .slice none 0 0, .bool false, .slice none 0 0]) (t := 66) ?hr ?_; (case hd => rfl); (case hg => rfl); (case hr => exact hr_); intro gb665 hg w26 hbox hb; have BK665 := Aside0.mk (hbox); have GE665 := gW_ (w := w) hg m_52; have NB649_665 := nl_ BK649 hg; have NB650_665 := nl_ BK650 hg; have NB663_665 := nl_ BK663 hg; replace HO_22 := Aside0.mk (Kd.N_below (Kd.N_elderB m_50 gb665 (Nat.le_of_eq hg.symm)) hb); replace HO_650001 := vE_ HO_650001 hg hb; replace HO_650003 := vE_ HO_650003 hg hb; replace HO_664001 := vE_ HO_664001 hg hb; replace HO_664003 := vE_ HO_664003 hg hb; replace HL664_1 := vE_ HL664_1 hg hb; replace HL664_3 := vE_ HL664_3 hg hb; replace BK649 := bB_ BK649 hb; replace BK650 := bB_ BK650 hb; replace BK663 := bB_ BK663 hb; replace HB := Aside0.mk (below_step m_52 hb); clear hb hbox hg; obtain ⟨hcz30_0, hcz30_1, hcz30_2, hcz30_3, hfz30_0, hfz30_1, hfz30_2, hfz30_3⟩ := cf4_ BK665))
        have n0_ : Aside0 (Kd.N k66 66 ((((w26.setCell ⟨gb665, 0, none⟩ (.bool ((rd_T66 t651 x24_1).f0.f0))).setCell ⟨gb665, 1, none⟩ (.slice A664_1 ((rd_T66 t651 x24_1).f0.f1).length c664_1)).setCell ⟨gb665, 2, none⟩ (.bool ((rd_T66 t651 x24_1).f1.f0))).setCell ⟨gb665, 3, none⟩ (.slice A664_3 ((rd_T66 t651 x24_1).f1.f1).length c664_3)) w.heap.size (fun k_ => ((P1_1_ k_ ∨ P1_3_ k_) ∨ w.heap.size ≤ k_) ∧ k_ ≠ gb649 ∧ k_ ≠ gb650 ∧ k_ ≠ gb663 ∧ k_ ≠ gb665) (.slice (some ad664) t651.length co18) t651) := ⟨(by (with_reducible repeat (first | apply Kd.N_alloc | apply Kd.N_drewN | apply Kd.N_drew)); exact Kd.N_mono (Kd.N_far (p := ⟨gb665, 3, none⟩) (Kd.N_far (p := ⟨gb665, 2, none⟩) (Kd.N_far (p := ⟨gb665, 1, none⟩) (Kd.N_far (p := ⟨gb665, 0, none⟩) (Kd.N_mono HO_22.out (fun k_ hk => (⟨hk, hk.2⟩ : _ ∧ k_ ≠ gb665))) (fun _ hk => hk.2) (.bool ((rd_T66 t651 x24_1).f0.f0))) (fun _ hk => hk.2) (.slice A664_1 ((rd_T66 t651 x24_1).f0.f1).length c664_1)) (fun _ hk => hk.2) (.bool ((rd_T66 t651 x24_1).f1.f0))) (fun _ hk => hk.2) (.slice A664_3 ((rd_T66 t651 x24_1).f1.f1).length c664_3)) (fun _ hk => ⟨hk.1.1.1, ⟨hk.1.1.2.1, ⟨hk.1.1.2.2.1, ⟨hk.1.1.2.2.2, hk.1.2⟩⟩⟩⟩))⟩
        have n1_ : Aside0 (Kd.V (Kd.int .u32) 117 ((((w26.setCell ⟨gb665, 0, none⟩ (.bool ((rd_T66 t651 x24_1).f0.f0))).setCell ⟨gb665, 1, none⟩ (.slice A664_1 ((rd_T66 t651 x24_1).f0.f1).length c664_1)).setCell ⟨gb665, 2, none⟩ (.bool ((rd_T66 t651 x24_1).f1.f0))).setCell ⟨gb665, 3, none⟩ (.slice A664_3 ((rd_T66 t651 x24_1).f1.f1).length c664_3)) w.heap.size (fun k_ => ((P1_1_ k_ ∨ P1_3_ k_) ∨ w.heap.size ≤ k_) ∧ some k_ ≠ (.slice (some ad664) t651.length co18 : Value).ownBlock ∧ k_ ≠ gb649 ∧ k_ ≠ gb650 ∧ k_ ≠ gb663 ∧ k_ ≠ gb665) (.slice A1_1 l1_1.length c1_1) l1_1) := ⟨(by (with_reducible repeat (first | apply Kd.V_alloc | apply Kd.V_drewN | apply Kd.V_drew)); exact Kd.V_mono (Kd.V_far (p := ⟨gb665, 3, none⟩) (Kd.V_far (p := ⟨gb665, 2, none⟩) (Kd.V_far (p := ⟨gb665, 1, none⟩) (Kd.V_far (p := ⟨gb665, 0, none⟩) (Kd.V_mono HO_650001.out (fun k_ hk => (⟨hk, hk.2⟩ : _ ∧ k_ ≠ gb665))) (fun _ hk => hk.2) (.bool ((rd_T66 t651 x24_1).f0.f0))) (fun _ hk => hk.2) (.slice A664_1 ((rd_T66 t651 x24_1).f0.f1).length c664_1)) (fun _ hk => hk.2) (.bool ((rd_T66 t651 x24_1).f1.f0))) (fun _ hk => hk.2) (.slice A664_3 ((rd_T66 t651 x24_1).f1.f1).length c664_3)) (fun _ hk => ⟨hk.1.1.1, ⟨hk.1.1.2.1, ⟨hk.1.1.2.2.1, ⟨hk.1.1.2.2.2.1, ⟨hk.1.1.2.2.2.2, hk.1.2⟩⟩⟩⟩⟩))⟩
        have n2_ : Aside0 (Kd.V (Kd.int .u32) 117 ((((w26.setCell ⟨gb665, 0, none⟩ (.bool ((rd_T66 t651 x24_1).f0.f0))).setCell ⟨gb665, 1, none⟩ (.slice A664_1 ((rd_T66 t651 x24_1).f0.f1).length c664_1)).setCell ⟨gb665, 2, none⟩ (.bool ((rd_T66 t651 x24_1).f1.f0))).setCell ⟨gb665, 3, none⟩ (.slice A664_3 ((rd_T66 t651 x24_1).f1.f1).length c664_3)) w.heap.size (fun k_ => ((P1_1_ k_ ∨ P1_3_ k_) ∨ w.heap.size ≤ k_) ∧ some k_ ≠ (.slice (some ad664) t651.length co18 : Value).ownBlock ∧ k_ ≠ gb649 ∧ k_ ≠ gb650 ∧ k_ ≠ gb663 ∧ k_ ≠ gb665) (.slice A1_3 l1_3.length c1_3) l1_3) := ⟨(by (with_reducible repeat (first | apply Kd.V_alloc | apply Kd.V_drewN | apply Kd.V_drew)); exact Kd.V_mono (Kd.V_far (p := ⟨gb665, 3, none⟩) (Kd.V_far (p := ⟨gb665, 2, none⟩) (Kd.V_far (p := ⟨gb665, 1, none⟩) (Kd.V_far (p := ⟨gb665, 0, none⟩) (Kd.V_mono HO_650003.out (fun k_ hk => (⟨hk, hk.2⟩ : _ ∧ k_ ≠ gb665))) (fun _ hk => hk.2) (.bool ((rd_T66 t651 x24_1).f0.f0))) (fun _ hk => hk.2) (.slice A664_1 ((rd_T66 t651 x24_1).f0.f1).length c664_1)) (fun _ hk => hk.2) (.bool ((rd_T66 t651 x24_1).f1.f0))) (fun _ hk => hk.2) (.slice A664_3 ((rd_T66 t651 x24_1).f1.f1).length c664_3)) (fun _ hk => ⟨hk.1.1.1, ⟨hk.1.1.2.1, ⟨hk.1.1.2.2.1, ⟨hk.1.1.2.2.2.1, ⟨hk.1.1.2.2.2.2, hk.1.2⟩⟩⟩⟩⟩))⟩
        have n3_ : Aside0 (Kd.V (Kd.int .u32) 117 ((((w26.setCell ⟨gb665, 0, none⟩ (.bool ((rd_T66 t651 x24_1).f0.f0))).setCell ⟨gb665, 1, none⟩ (.slice A664_1 ((rd_T66 t651 x24_1).f0.f1).length c664_1)).setCell ⟨gb665, 2, none⟩ (.bool ((rd_T66 t651 x24_1).f1.f0))).setCell ⟨gb665, 3, none⟩ (.slice A664_3 ((rd_T66 t651 x24_1).f1.f1).length c664_3)) w.heap.size (fun k_ => ((P1_1_ k_ ∨ P1_3_ k_) ∨ w.heap.size ≤ k_) ∧ some k_ ≠ (.slice (some ad664) t651.length co18 : Value).ownBlock ∧ k_ ≠ gb649 ∧ k_ ≠ gb650 ∧ k_ ≠ gb663 ∧ k_ ≠ gb665) u664001 x664001_1) := ⟨(by (with_reducible repeat (first | apply Kd.V_alloc | apply Kd.V_drewN | apply Kd.V_drew)); exact Kd.V_mono (Kd.V_far (p := ⟨gb665, 3, none⟩) (Kd.V_far (p := ⟨gb665, 2, none⟩) (Kd.V_far (p := ⟨gb665, 1, none⟩) (Kd.V_far (p := ⟨gb665, 0, none⟩) (Kd.V_mono HO_664001.out (fun k_ hk => (⟨hk, hk.2⟩ : _ ∧ k_ ≠ gb665))) (fun _ hk => hk.2) (.bool ((rd_T66 t651 x24_1).f0.f0))) (fun _ hk => hk.2) (.slice A664_1 ((rd_T66 t651 x24_1).f0.f1).length c664_1)) (fun _ hk => hk.2) (.bool ((rd_T66 t651 x24_1).f1.f0))) (fun _ hk => hk.2) (.slice A664_3 ((rd_T66 t651 x24_1).f1.f1).length c664_3)) (fun _ hk => ⟨hk.1.1.1, ⟨hk.1.1.2.1, ⟨hk.1.1.2.2.1, ⟨hk.1.1.2.2.2.1, ⟨hk.1.1.2.2.2.2, hk.1.2⟩⟩⟩⟩⟩))⟩
        have n4_ : Aside0 (Kd.V (Kd.int .u32) 117 ((((w26.setCell ⟨gb665, 0, none⟩ (.bool ((rd_T66 t651 x24_1).f0.f0))).setCell ⟨gb665, 1, none⟩ (.slice A664_1 ((rd_T66 t651 x24_1).f0.f1).length c664_1)).setCell ⟨gb665, 2, none⟩ (.bool ((rd_T66 t651 x24_1).f1.f0))).setCell ⟨gb665, 3, none⟩ (.slice A664_3 ((rd_T66 t651 x24_1).f1.f1).length c664_3)) w.heap.size (fun k_ => ((P1_1_ k_ ∨ P1_3_ k_) ∨ w.heap.size ≤ k_) ∧ some k_ ≠ (.slice (some ad664) t651.length co18 : Value).ownBlock ∧ k_ ≠ gb649 ∧ k_ ≠ gb650 ∧ k_ ≠ gb663 ∧ k_ ≠ gb665) u664003 x664003_1) := ⟨(by (with_reducible repeat (first | apply Kd.V_alloc | apply Kd.V_drewN | apply Kd.V_drew)); exact Kd.V_mono (Kd.V_far (p := ⟨gb665, 3, none⟩) (Kd.V_far (p := ⟨gb665, 2, none⟩) (Kd.V_far (p := ⟨gb665, 1, none⟩) (Kd.V_far (p := ⟨gb665, 0, none⟩) (Kd.V_mono HO_664003.out (fun k_ hk => (⟨hk, hk.2⟩ : _ ∧ k_ ≠ gb665))) (fun _ hk => hk.2) (.bool ((rd_T66 t651 x24_1).f0.f0))) (fun _ hk => hk.2) (.slice A664_1 ((rd_T66 t651 x24_1).f0.f1).length c664_1)) (fun _ hk => hk.2) (.bool ((rd_T66 t651 x24_1).f1.f0))) (fun _ hk => hk.2) (.slice A664_3 ((rd_T66 t651 x24_1).f1.f1).length c664_3)) (fun _ hk => ⟨hk.1.1.1, ⟨hk.1.1.2.1, ⟨hk.1.1.2.2.1, ⟨hk.1.1.2.2.2.1, ⟨hk.1.1.2.2.2.2, hk.1.2⟩⟩⟩⟩⟩))⟩
        have n5_ : Aside0 (Kd.V (Kd.int .u32) 117 ((((w26.setCell ⟨gb665, 0, none⟩ (.bool ((rd_T66 t651 x24_1).f0.f0))).setCell ⟨gb665, 1, none⟩ (.slice A664_1 ((rd_T66 t651 x24_1).f0.f1).length c664_1)).setCell ⟨gb665, 2, none⟩ (.bool ((rd_T66 t651 x24_1).f1.f0))).setCell ⟨gb665, 3, none⟩ (.slice A664_3 ((rd_T66 t651 x24_1).f1.f1).length c664_3)) w.heap.size (fun k_ => ((P1_1_ k_ ∨ P1_3_ k_) ∨ w.heap.size ≤ k_) ∧ some k_ ≠ (.slice (some ad664) t651.length co18 : Value).ownBlock ∧ k_ ≠ gb649 ∧ k_ ≠ gb650 ∧ k_ ≠ gb663 ∧ k_ ≠ gb665) (.slice A664_1 ((rd_T66 t651 x24_1).f0.f1).length c664_1) ((rd_T66 t651 x24_1).f0.f1)) := ⟨(by (with_reducible repeat (first | apply Kd.V_alloc | apply Kd.V_drewN | apply Kd.V_drew)); exact Kd.V_mono (Kd.V_far (p := ⟨gb665, 3, none⟩) (Kd.V_far (p := ⟨gb665, 2, none⟩) (Kd.V_far (p := ⟨gb665, 1, none⟩) (Kd.V_far (p := ⟨gb665, 0, none⟩) (Kd.V_mono HL664_1.out (fun k_ hk => (⟨hk, hk.2⟩ : _ ∧ k_ ≠ gb665))) (fun _ hk => hk.2) (.bool ((rd_T66 t651 x24_1).f0.f0))) (fun _ hk => hk.2) (.slice A664_1 ((rd_T66 t651 x24_1).f0.f1).length c664_1)) (fun _ hk => hk.2) (.bool ((rd_T66 t651 x24_1).f1.f0))) (fun _ hk => hk.2) (.slice A664_3 ((rd_T66 t651 x24_1).f1.f1).length c664_3)) (fun _ hk => ⟨hk.1.1.1.1, ⟨hk.1.1.2, ⟨hk.1.1.1.2.1, ⟨hk.1.1.1.2.2.1, ⟨hk.1.1.1.2.2.2, hk.1.2⟩⟩⟩⟩⟩))⟩
        have n6_ : Aside0 (Kd.V (Kd.int .u32) 117 ((((w26.setCell ⟨gb665, 0, none⟩ (.bool ((rd_T66 t651 x24_1).f0.f0))).setCell ⟨gb665, 1, none⟩ (.slice A664_1 ((rd_T66 t651 x24_1).f0.f1).length c664_1)).setCell ⟨gb665, 2, none⟩ (.bool ((rd_T66 t651 x24_1).f1.f0))).setCell ⟨gb665, 3, none⟩ (.slice A664_3 ((rd_T66 t651 x24_1).f1.f1).length c664_3)) w.heap.size (fun k_ => ((P1_1_ k_ ∨ P1_3_ k_) ∨ w.heap.size ≤ k_) ∧ some k_ ≠ (.slice (some ad664) t651.length co18 : Value).ownBlock ∧ k_ ≠ gb649 ∧ k_ ≠ gb650 ∧ k_ ≠ gb663 ∧ k_ ≠ gb665) (.slice A664_3 ((rd_T66 t651 x24_1).f1.f1).length c664_3) ((rd_T66 t651 x24_1).f1.f1)) := ⟨(by (with_reducible repeat (first | apply Kd.V_alloc | apply Kd.V_drewN | apply Kd.V_drew)); exact Kd.V_mono (Kd.V_far (p := ⟨gb665, 3, none⟩) (Kd.V_far (p := ⟨gb665, 2, none⟩) (Kd.V_far (p := ⟨gb665, 1, none⟩) (Kd.V_far (p := ⟨gb665, 0, none⟩) (Kd.V_mono HL664_3.out (fun k_ hk => (⟨hk, hk.2⟩ : _ ∧ k_ ≠ gb665))) (fun _ hk => hk.2) (.bool ((rd_T66 t651 x24_1).f0.f0))) (fun _ hk => hk.2) (.slice A664_1 ((rd_T66 t651 x24_1).f0.f1).length c664_1)) (fun _ hk => hk.2) (.bool ((rd_T66 t651 x24_1).f1.f0))) (fun _ hk => hk.2) (.slice A664_3 ((rd_T66 t651 x24_1).f1.f1).length c664_3)) (fun _ hk => ⟨hk.1.1.1.1, ⟨hk.1.1.2, ⟨hk.1.1.1.2.1, ⟨hk.1.1.1.2.2.1, ⟨hk.1.1.1.2.2.2, hk.1.2⟩⟩⟩⟩⟩))⟩
        have n7_ : Aside0 (((((w26.setCell ⟨gb665, 0, none⟩ (.bool ((rd_T66 t651 x24_1).f0.f0))).setCell ⟨gb665, 1, none⟩ (.slice A664_1 ((rd_T66 t651 x24_1).f0.f1).length c664_1)).setCell ⟨gb665, 2, none⟩ (.bool ((rd_T66 t651 x24_1).f1.f0))).setCell ⟨gb665, 3, none⟩ (.slice A664_3 ((rd_T66 t651 x24_1).f1.f1).length c664_3)).heap[gb649]? = some (.cells #[.bool a1_0, .slice A1_1 l1_1.length c1_1, .bool a1_2, .slice A1_3 l1_3.length c1_3] 66 (0, 0))) := ⟨(by (with_reducible repeat (first | refine blk_drewN ?_ _ | refine blk_drew ?_ | refine blk_alloc ?_ _)); refine blk_far ?_ NB649_665.out _; (with_reducible repeat (first | refine blk_drewN ?_ _ | refine blk_drew ?_ | refine blk_alloc ?_ _)); refine blk_far ?_ NB649_665.out _; (with_reducible repeat (first | refine blk_drewN ?_ _ | refine blk_drew ?_ | refine blk_alloc ?_ _)); refine blk_far ?_ NB649_665.out _; (with_reducible repeat (first | refine blk_drewN ?_ _ | refine blk_drew ?_ | refine blk_alloc ?_ _)); refine blk_far ?_ NB649_665.out _; (with_reducible repeat (first | refine blk_drewN ?_ _ | refine blk_drew ?_ | refine blk_alloc ?_ _)); exact BK649.out)⟩
        have n8_ : Aside0 (((((w26.setCell ⟨gb665, 0, none⟩ (.bool ((rd_T66 t651 x24_1).f0.f0))).setCell ⟨gb665, 1, none⟩ (.slice A664_1 ((rd_T66 t651 x24_1).f0.f1).length c664_1)).setCell ⟨gb665, 2, none⟩ (.bool ((rd_T66 t651 x24_1).f1.f0))).setCell ⟨gb665, 3, none⟩ (.slice A664_3 ((rd_T66 t651 x24_1).f1.f1).length c664_3)).heap[gb650]? = some (.cells #[.bool false, .slice none 0 0, .bool false, .slice none 0 0] 66 (0, 0))) := ⟨(by (with_reducible repeat (first | refine blk_drewN ?_ _ | refine blk_drew ?_ | refine blk_alloc ?_ _)); refine blk_far ?_ NB650_665.out _; (with_reducible repeat (first | refine blk_drewN ?_ _ | refine blk_drew ?_ | refine blk_alloc ?_ _)); refine blk_far ?_ NB650_665.out _; (with_reducible repeat (first | refine blk_drewN ?_ _ | refine blk_drew ?_ | refine blk_alloc ?_ _)); refine blk_far ?_ NB650_665.out _; (with_reducible repeat (first | refine blk_drewN ?_ _ | refine blk_drew ?_ | refine blk_alloc ?_ _)); refine blk_far ?_ NB650_665.out _; (with_reducible repeat (first | refine blk_drewN ?_ _ | refine blk_drew ?_ | refine blk_alloc ?_ _)); exact BK650.out)⟩
        have n9_ : Aside0 (((((w26.setCell ⟨gb665, 0, none⟩ (.bool ((rd_T66 t651 x24_1).f0.f0))).setCell ⟨gb665, 1, none⟩ (.slice A664_1 ((rd_T66 t651 x24_1).f0.f1).length c664_1)).setCell ⟨gb665, 2, none⟩ (.bool ((rd_T66 t651 x24_1).f1.f0))).setCell ⟨gb665, 3, none⟩ (.slice A664_3 ((rd_T66 t651 x24_1).f1.f1).length c664_3)).heap[gb663]? = some (.cells #[.bool x664000_1, u664001, .bool x664002_1, u664003] 66 (0, 0))) := ⟨(by (with_reducible repeat (first | refine blk_drewN ?_ _ | refine blk_drew ?_ | refine blk_alloc ?_ _)); refine blk_far ?_ NB663_665.out _; (with_reducible repeat (first | refine blk_drewN ?_ _ | refine blk_drew ?_ | refine blk_alloc ?_ _)); refine blk_far ?_ NB663_665.out _; (with_reducible repeat (first | refine blk_drewN ?_ _ | refine blk_drew ?_ | refine blk_alloc ?_ _)); refine blk_far ?_ NB663_665.out _; (with_reducible repeat (first | refine blk_drewN ?_ _ | refine blk_drew ?_ | refine blk_alloc ?_ _)); refine blk_far ?_ NB663_665.out _; (with_reducible repeat (first | refine blk_drewN ?_ _ | refine blk_drew ?_ | refine blk_alloc ?_ _)); exact BK663.out)⟩
        have n10_ : Aside0 (((((w26.setCell ⟨gb665, 0, none⟩ (.bool ((rd_T66 t651 x24_1).f0.f0))).setCell ⟨gb665, 1, none⟩ (.slice A664_1 ((rd_T66 t651 x24_1).f0.f1).length c664_1)).setCell ⟨gb665, 2, none⟩ (.bool ((rd_T66 t651 x24_1).f1.f0))).setCell ⟨gb665, 3, none⟩ (.slice A664_3 ((rd_T66 t651 x24_1).f1.f1).length c664_3)).heap[gb665]? = some (.cells #[.bool ((rd_T66 t651 x24_1).f0.f0), .slice A664_1 ((rd_T66 t651 x24_1).f0.f1).length c664_1, .bool ((rd_T66 t651 x24_1).f1.f0), .slice A664_3 ((rd_T66 t651 x24_1).f1.f1).length c664_3] 66 (0, 0))) := ⟨(by (with_reducible repeat (first | refine blk_drewN ?_ _ | refine blk_drew ?_ | refine blk_alloc ?_ _)); refine blk_put (cs := #[.bool ((rd_T66 t651 x24_1).f0.f0), .slice A664_1 ((rd_T66 t651 x24_1).f0.f1).length c664_1, .bool ((rd_T66 t651 x24_1).f1.f0), .slice none 0 0]) ?_ 3 _ rfl; (with_reducible repeat (first | refine blk_drewN ?_ _ | refine blk_drew ?_ | refine blk_alloc ?_ _)); refine blk_put (cs := #[.bool ((rd_T66 t651 x24_1).f0.f0), .slice A664_1 ((rd_T66 t651 x24_1).f0.f1).length c664_1, .bool false, .slice none 0 0]) ?_ 2 _ rfl; (with_reducible repeat (first | refine blk_drewN ?_ _ | refine blk_drew ?_ | refine blk_alloc ?_ _)); refine blk_put (cs := #[.bool ((rd_T66 t651 x24_1).f0.f0), .slice none 0 0, .bool false, .slice none 0 0]) ?_ 1 _ rfl; (with_reducible repeat (first | refine blk_drewN ?_ _ | refine blk_drew ?_ | refine blk_alloc ?_ _)); refine blk_put (cs := #[.bool false, .slice none 0 0, .bool false, .slice none 0 0]) ?_ 0 _ rfl; (with_reducible repeat (first | refine blk_drewN ?_ _ | refine blk_drew ?_ | refine blk_alloc ?_ _)); exact BK665.out)⟩
        have n11_ : Aside0 (Below w.heap.size w ((((w26.setCell ⟨gb665, 0, none⟩ (.bool ((rd_T66 t651 x24_1).f0.f0))).setCell ⟨gb665, 1, none⟩ (.slice A664_1 ((rd_T66 t651 x24_1).f0.f1).length c664_1)).setCell ⟨gb665, 2, none⟩ (.bool ((rd_T66 t651 x24_1).f1.f0))).setCell ⟨gb665, 3, none⟩ (.slice A664_3 ((rd_T66 t651 x24_1).f1.f1).length c664_3))) := ⟨m_12⟩
        (try clear HO_22); (try clear HO_650001); (try clear HO_650003); (try clear HO_664001); (try clear HO_664003); (try clear HL664_1); (try clear HL664_3); (try clear BK649); (try clear BK650); (try clear BK663); (try clear BK665); (try clear HB)
        generalize ((((w26.setCell ⟨gb665, 0, none⟩ (.bool ((rd_T66 t651 x24_1).f0.f0))).setCell ⟨gb665, 1, none⟩ (.slice A664_1 ((rd_T66 t651 x24_1).f0.f1).length c664_1)).setCell ⟨gb665, 2, none⟩ (.bool ((rd_T66 t651 x24_1).f1.f0))).setCell ⟨gb665, 3, none⟩ (.slice A664_3 ((rd_T66 t651 x24_1).f1.f1).length c664_3)) = w31 at n0_ n1_ n2_ n3_ n4_ n5_ n6_ n7_ n8_ n9_ n10_ n11_ ⊢
        have HO_22 := n0_
        have HO_650001 := n1_
        have HO_650003 := n2_
        have HO_664001 := n3_
        have HO_664003 := n4_
        have HL664_1 := n5_
        have HL664_3 := n6_
        have BK649 := n7_
        have BK650 := n8_
        have BK663 := n9_
        have BK665 := n10_
        have HB := n11_
        clear n0_ n1_ n2_ n3_ n4_ n5_ n6_ n7_ n8_ n9_ n10_ n11_
        replace HO_22 := Aside0.mk (Kd.N_drew HO_22.out)
        replace HO_650001 := vD_ HO_650001
        replace HO_650003 := vD_ HO_650003
        replace HO_664001 := vD_ HO_664001
        replace HO_664003 := vD_ HO_664003
        replace HL664_1 := vD_ HL664_1
        replace HL664_3 := vD_ HL664_3
        replace BK649 := bD_ BK649
        replace BK650 := bD_ BK650
        replace BK663 := bD_ BK663
        replace BK665 := bD_ BK665
        replace HB := Aside0.mk (below_drew1 HB.out)
        have p666 : 0 ≤ (x24_1 : Int) := of_decide_eq_true m_10
        have q666 : x24_1 < (l0.length : Int) := of_decide_eq_true m_10
        obtain ⟨ad666, e666, hx666_0, hx666_1⟩ := at_T99 HR0.out x24_1 p666 q666
        have hw666_1 := hx666_1
        have hw666_0 := hx666_0
        cases e666
        replace q666 := eq_true q666
        refine start_ (n := 11) (S := fun w' => w'.cell? ⟨gb663, 0, none⟩ = some (.bool x664000_1) ∧ w'.cell? ⟨gb663, 1, none⟩ = some (u664001) ∧ w'.cell? ⟨gb663, 2, none⟩ = some (.bool x664002_1) ∧ w'.cell? ⟨gb663, 3, none⟩ = some (u664003) ∧ w'.cell? ⟨gb665, 0, none⟩ = some (.bool ((rd_T66 t651 x24_1).f0.f0)) ∧ w'.cell? ⟨gb665, 1, none⟩ = some (.slice A664_1 ((rd_T66 t651 x24_1).f0.f1).length c664_1) ∧ w'.cell? ⟨gb665, 2, none⟩ = some (.bool ((rd_T66 t651 x24_1).f1.f0)) ∧ w'.cell? ⟨gb665, 3, none⟩ = some (.slice A664_3 ((rd_T66 t651 x24_1).f1.f1).length c664_3) ∧ w'.cell? (ad666.add ((x24_1).toNat * 2)) = some (.int .i64 ((rd_T99 l0 x24_1).f0)) ∧ w'.cell? ⟨(ad666.add ((x24_1).toNat * 2)).block, (ad666.add ((x24_1).toNat * 2)).off + 1, none⟩ = some (.int .i64 ((rd_T99 l0 x24_1).f1))) (ds := [10]) #[false, false, false, false, false, false, false, false, false, false, false] m_19 rfl rfl ⟨(blk_cell BK663.out 0).trans rfl, (blk_cell BK663.out 1).trans rfl, (blk_cell BK663.out 2).trans rfl, (blk_cell BK663.out 3).trans rfl, (blk_cell BK665.out 0).trans rfl, (blk_cell BK665.out 1).trans rfl, (blk_cell BK665.out 2).trans rfl, (blk_cell BK665.out 3).trans rfl, (mv_ HB hw666_0), (mv_ HB hw666_1)⟩ (fun hHeld => ?_); refine with_tabW step_Cost.tab8 step_Cost.bits8 (fun HT_ HW_ => ?_)
        generalize w31.drew = w32 at HO_22 HO_650001 HO_650003 HO_664001 HO_664003 HL664_1 HL664_3 BK649 BK650 BK663 BK665 HB hHeld ⊢
        refine pA_ 2 HT_.out ?_
        refine pA_ 3 HT_.out ?_
        refine pA_ 4 HT_.out ?_
        refine pA_ 5 HT_.out ?_
        refine tA_ 0 HT_.out HW_.out hHeld ?_
        refine tA_ 1 HT_.out HW_.out hHeld ?_
        refine tA_ 6 HT_.out HW_.out hHeld ?_
        refine cB_1 7 Try.func39 (args := #[.int .i64 ((rd_T99 l0 x24_1).f1)]) ?_
        with_reducible refine (frac_FromInt64.calls ((rd_T99 l0 x24_1).f1) t667 t668 t671 t672 _ A23.out).mono ?_
        rintro e w33 ⟨v669, v673, rfl, ho0, ho1, hb⟩
        refine ⟨_, rfl, ?_⟩
        have HO670 := Aside0.mk (Kd.V_lower (Kd.V_mono (ok' := fun k_ => ((P1_1_ k_ ∨ P1_3_ k_) ∨ w.heap.size ≤ k_) ∧ some k_ ≠ (.slice (some ad664) t651.length co18 : Value).ownBlock ∧ k_ ≠ gb649 ∧ k_ ≠ gb650 ∧ k_ ≠ gb663 ∧ k_ ≠ gb665) ho0 (fun k_ hk_ => ⟨(.inr (Nat.le_trans (below_size m_12) hk_)), (Kd.fresh' (Kd.N_lt m_50) k_ hk_), (Kd.freshB (bA_ BK649.out) k_ hk_), (Kd.freshB (bA_ BK650.out) k_ hk_), (Kd.freshB (bA_ BK663.out) k_ hk_), (Kd.freshB (bA_ BK665.out) k_ hk_)⟩)) (below_size m_12))
        have HO674 := Aside0.mk (Kd.V_lower (Kd.V_mono (ok' := fun k_ => ((P1_1_ k_ ∨ P1_3_ k_) ∨ w.heap.size ≤ k_) ∧ some k_ ≠ (.slice (some ad664) t651.length co18 : Value).ownBlock ∧ k_ ≠ gb649 ∧ k_ ≠ gb650 ∧ k_ ≠ gb663 ∧ k_ ≠ gb665) ho1 (fun k_ hk_ => ⟨(.inr (Nat.le_trans (below_size m_12) hk_)), (Kd.fresh' (Kd.N_lt m_50) k_ hk_), (Kd.freshB (bA_ BK649.out) k_ hk_), (Kd.freshB (bA_ BK650.out) k_ hk_), (Kd.freshB (bA_ BK663.out) k_ hk_), (Kd.freshB (bA_ BK665.out) k_ hk_)⟩)) (below_size m_12))
        replace HO_22 := Aside0.mk (Kd.N_below m_50 hb)
        replace HO_650001 := vB_ HO_650001 hb
        replace HO_650003 := vB_ HO_650003 hb
        replace HO_664001 := vB_ HO_664001 hb
        replace HO_664003 := vB_ HO_664003 hb
        replace HL664_1 := vB_ HL664_1 hb
        replace HL664_3 := vB_ HL664_3 hb
        replace BK649 := bB_ BK649 hb
        replace BK650 := bB_ BK650 hb
        replace BK663 := bB_ BK663 hb
        replace BK665 := bB_ BK665 hb
        replace HB := Aside0.mk (below_step m_12 hb)
        (try clear hb); (try clear hb2); (try clear hk); (try clear hi); (try clear ho0); (try clear ho1)
        obtain ⟨Ao34, co34, eo34⟩ := Kd.V_slice HO670.out
        (first | subst eo34 | (injection eo34 with f1_ f2_ f3_; have f4_ := f1_.symm; have f5_ := f3_.symm; clear f1_ f2_ f3_; subst f4_; subst f5_))
        obtain ⟨Ao35, co35, eo35⟩ := Kd.V_slice HO674.out
        (first | subst eo35 | (injection eo35 with f1_ f2_ f3_; have f4_ := f1_.symm; have f5_ := f3_.symm; clear f1_ f2_ f3_; subst f4_; subst f5_))
        refine nx_ ⟨(blk_cell BK663.out 0).trans rfl, (blk_cell BK663.out 1).trans rfl, (blk_cell BK663.out 2).trans rfl, (blk_cell BK663.out 3).trans rfl, (blk_cell BK665.out 0).trans rfl, (blk_cell BK665.out 1).trans rfl, (blk_cell BK665.out 2).trans rfl, (blk_cell BK665.out 3).trans rfl, (mv_ HB hw666_0), (mv_ HB hw666_1)⟩ (fun hHeld => ?_)
        refine cB_1 8 Try.func62 (args := #[.agg #[.bool ((rd_T66 t651 x24_1).f0.f0), .slice A664_1 ((rd_T66 t651 x24_1).f0.f1).length c664_1, .bool ((rd_T66 t651 x24_1).f1.f0), .slice A664_3 ((rd_T66 t651 x24_1).f1.f1).length c664_3], .agg #[.bool t667, .slice Ao34 t668.length co34, .bool t671, .slice Ao35 t672.length co35]]) ?_
        with_reducible refine (frac_Mul.calls ((rd_T66 t651 x24_1).f0.f0) _ _ ((rd_T66 t651 x24_1).f0.f1) ((rd_T66 t651 x24_1).f1.f0) _ _ ((rd_T66 t651 x24_1).f1.f1) t667 _ _ t668 t671 _ _ t672 t675 t676 t679 t680 _ ?side1 ?side2 ?side3 ?side4 ?side5 ?side6 ?side7 ?side8 A24.out).mono ?_
        (case side1 => exact (by repeat (first | exact ((Kd.V_reads' (vA_ HL664_1.out)).2.2) | (with_reducible refine Kd.C_alloc ?_ _) | (with_reducible refine Kd.C_drewN ?_ _) | (with_reducible refine Kd.C_drew ?_))))
        (case side2 => exact HC664_1.out)
        (case side3 => exact (by repeat (first | exact ((Kd.V_reads' (vA_ HL664_3.out)).2.2) | (with_reducible refine Kd.C_alloc ?_ _) | (with_reducible refine Kd.C_drewN ?_ _) | (with_reducible refine Kd.C_drew ?_))))
        (case side4 => exact HC664_3.out)
        (case side5 => exact cA_ (Kd.V_reads' HO670.out).2.2)
        (case side6 => exact (Kd.V_reads' HO670.out).2.1)
        (case side7 => exact cA_ (Kd.V_reads' HO674.out).2.2)
        (case side8 => exact (Kd.V_reads' HO674.out).2.1)
        rintro e w36 ⟨v677, v681, rfl, ho0, ho1, hb⟩
        refine ⟨_, rfl, ?_⟩
        have HO678 := Aside0.mk (Kd.V_lower (Kd.V_mono (ok' := fun k_ => ((P1_1_ k_ ∨ P1_3_ k_) ∨ w.heap.size ≤ k_) ∧ some k_ ≠ (.slice (some ad664) t651.length co18 : Value).ownBlock ∧ k_ ≠ gb649 ∧ k_ ≠ gb650 ∧ k_ ≠ gb663 ∧ k_ ≠ gb665) ho0 (fun k_ hk_ => ⟨(.inr (Nat.le_trans (below_size m_12) hk_)), (Kd.fresh' (Kd.N_lt m_50) k_ hk_), (Kd.freshB (bA_ BK649.out) k_ hk_), (Kd.freshB (bA_ BK650.out) k_ hk_), (Kd.freshB (bA_ BK663.out) k_ hk_), (Kd.freshB (bA_ BK665.out) k_ hk_)⟩)) (below_size m_12))
        have HO682 := Aside0.mk (Kd.V_lower (Kd.V_mono (ok' := fun k_ => ((P1_1_ k_ ∨ P1_3_ k_) ∨ w.heap.size ≤ k_) ∧ some k_ ≠ (.slice (some ad664) t651.length co18 : Value).ownBlock ∧ k_ ≠ gb649 ∧ k_ ≠ gb650 ∧ k_ ≠ gb663 ∧ k_ ≠ gb665) ho1 (fun k_ hk_ => ⟨(.inr (Nat.le_trans (below_size m_12) hk_)), (Kd.fresh' (Kd.N_lt m_50) k_ hk_), (Kd.freshB (bA_ BK649.out) k_ hk_), (Kd.freshB (bA_ BK650.out) k_ hk_), (Kd.freshB (bA_ BK663.out) k_ hk_), (Kd.freshB (bA_ BK665.out) k_ hk_)⟩)) (below_size m_12))
        replace HO_22 := Aside0.mk (Kd.N_below m_50 hb)
        replace HO_650001 := vB_ HO_650001 hb
        replace HO_650003 := vB_ HO_650003 hb
        replace HO_664001 := vB_ HO_664001 hb
        replace HO_664003 := vB_ HO_664003 hb
        replace BK649 := bB_ BK649 hb
        replace BK650 := bB_ BK650 hb
        replace BK663 := bB_ BK663 hb
        replace BK665 := bB_ BK665 hb
        replace HB := Aside0.mk (below_step m_12 hb)
        (try clear hb); (try clear hb2); (try clear hk); (try clear hi); (try clear ho0); (try clear ho1)
        obtain ⟨Ao37, co37, eo37⟩ := Kd.V_slice HO_664001.out
        (first | subst eo37 | (injection eo37 with f1_ f2_ f3_; have f4_ := f1_.symm; have f5_ := f3_.symm; clear f1_ f2_ f3_; subst f4_; subst f5_))
        obtain ⟨Ao38, co38, eo38⟩ := Kd.V_slice HO_664003.out
        (first | subst eo38 | (injection eo38 with f1_ f2_ f3_; have f4_ := f1_.symm; have f5_ := f3_.symm; clear f1_ f2_ f3_; subst f4_; subst f5_))
        obtain ⟨Ao39, co39, eo39⟩ := Kd.V_slice HO678.out
        (first | subst eo39 | (injection eo39 with f1_ f2_ f3_; have f4_ := f1_.symm; have f5_ := f3_.symm; clear f1_ f2_ f3_; subst f4_; subst f5_))
        obtain ⟨Ao40, co40, eo40⟩ := Kd.V_slice HO682.out
        (first | subst eo40 | (injection eo40 with f1_ f2_ f3_; have f4_ := f1_.symm; have f5_ := f3_.symm; clear f1_ f2_ f3_; subst f4_; subst f5_))
        refine nx_ ⟨(blk_cell BK663.out 0).trans rfl, (blk_cell BK663.out 1).trans rfl, (blk_cell BK663.out 2).trans rfl, (blk_cell BK663.out 3).trans rfl, (blk_cell BK665.out 0).trans rfl, (blk_cell BK665.out 1).trans rfl, (blk_cell BK665.out 2).trans rfl, (blk_cell BK665.out 3).trans rfl, (mv_ HB hw666_0), (mv_ HB hw666_1)⟩ (fun hHeld => ?_)
        refine cB_1 9 Try.func61 (args := #[.agg #[.bool x664000_1, .slice Ao37 x664001_1.length co37, .bool x664002_1, .slice Ao38 x664003_1.length co38], .agg #[.bool t675, .slice Ao39 t676.length co39, .bool t679, .slice Ao40 t680.length co40]]) ?_
        with_reducible refine (frac_Add.calls x664000_1 _ _ x664001_1 x664002_1 _ _ x664003_1 t675 _ _ t676 t679 _ _ t680 t683 t684 t687 t688 _ ?side1 ?side2 ?side3 ?side4 ?side5 ?side6 ?side7 ?side8 A25.out).mono ?_
        (case side1 => exact cA_ (Kd.V_reads' HO_664001.out).2.2)
        (case side2 => exact (Kd.V_reads' HO_664001.out).2.1)
        (case side3 => exact cA_ (Kd.V_reads' HO_664003.out).2.2)
        (case side4 => exact (Kd.V_reads' HO_664003.out).2.1)
        (case side5 => exact cA_ (Kd.V_reads' HO678.out).2.2)
        (case side6 => exact (Kd.V_reads' HO678.out).2.1)
        (case side7 => exact cA_ (Kd.V_reads' HO682.out).2.2)
        (case side8 => exact (Kd.V_reads' HO682.out).2.1)
        rintro e w41 ⟨v685, v689, rfl, ho0, ho1, hb⟩
        refine ⟨_, rfl, ?_⟩
        have HO686 := Aside0.mk (Kd.V_lower (Kd.V_mono (ok' := fun k_ => ((P1_1_ k_ ∨ P1_3_ k_) ∨ w.heap.size ≤ k_) ∧ some k_ ≠ (.slice (some ad664) t651.length co18 : Value).ownBlock ∧ k_ ≠ gb649 ∧ k_ ≠ gb650 ∧ k_ ≠ gb663 ∧ k_ ≠ gb665) ho0 (fun k_ hk_ => ⟨(.inr (Nat.le_trans (below_size m_12) hk_)), (Kd.fresh' (Kd.N_lt m_50) k_ hk_), (Kd.freshB (bA_ BK649.out) k_ hk_), (Kd.freshB (bA_ BK650.out) k_ hk_), (Kd.freshB (bA_ BK663.out) k_ hk_), (Kd.freshB (bA_ BK665.out) k_ hk_)⟩)) (below_size m_12))
        have HO690 := Aside0.mk (Kd.V_lower (Kd.V_mono (ok' := fun k_ => ((P1_1_ k_ ∨ P1_3_ k_) ∨ w.heap.size ≤ k_) ∧ some k_ ≠ (.slice (some ad664) t651.length co18 : Value).ownBlock ∧ k_ ≠ gb649 ∧ k_ ≠ gb650 ∧ k_ ≠ gb663 ∧ k_ ≠ gb665) ho1 (fun k_ hk_ => ⟨(.inr (Nat.le_trans (below_size m_12) hk_)), (Kd.fresh' (Kd.N_lt m_50) k_ hk_), (Kd.freshB (bA_ BK649.out) k_ hk_), (Kd.freshB (bA_ BK650.out) k_ hk_), (Kd.freshB (bA_ BK663.out) k_ hk_), (Kd.freshB (bA_ BK665.out) k_ hk_)⟩)) (below_size m_12))
        replace HO_22 := Aside0.mk (Kd.N_below m_50 hb)
        replace HO_650001 := vB_ HO_650001 hb
        replace HO_650003 := vB_ HO_650003 hb
        replace BK649 := bB_ BK649 hb
        replace BK650 := bB_ BK650 hb
        replace BK663 := bB_ BK663 hb
        replace BK665 := bB_ BK665 hb
        replace HB := Aside0.mk (below_step m_12 hb)
        (try clear hb); (try clear hb2); (try clear hk); (try clear hi); (try clear ho0); (try clear ho1)
        obtain ⟨Ao43, co43, eo43⟩ := Kd.V_slice HO686.out
        (first | subst eo43 | (injection eo43 with f1_ f2_ f3_; have f4_ := f1_.symm; have f5_ := f3_.symm; clear f1_ f2_ f3_; subst f4_; subst f5_))
        obtain ⟨Ao46, co46, eo46⟩ := Kd.V_slice HO690.out
        (first | subst eo46 | (injection eo46 with f1_ f2_ f3_; have f4_ := f1_.symm; have f5_ := f3_.symm; clear f1_ f2_ f3_; subst f4_; subst f5_))
        refine nx_ ⟨(blk_cell BK663.out 0).trans rfl, (blk_cell BK663.out 1).trans rfl, (blk_cell BK663.out 2).trans rfl, (blk_cell BK663.out 3).trans rfl, (blk_cell BK665.out 0).trans rfl, (blk_cell BK665.out 1).trans rfl, (blk_cell BK665.out 2).trans rfl, (blk_cell BK665.out 3).trans rfl, (mv_ HB hw666_0), (mv_ HB hw666_1)⟩ (fun hHeld => ?_)
        refine last_ (i := 10) (N := none) #[true, true, true, true, true, true, true, true, true, true, true] rfl rfl (one_of HT_.out m_19) (by decide) (fun K hK => ?_)
        have hfs42 := blk_frozen BK663.out 0
        have hfs44 := blk_frozen BK663.out 1
        have hfs45 := blk_frozen BK663.out 2
        have hfs47 := blk_frozen BK663.out 3
        refine skip_ (w1 := ?_) (by rfl) rfl ?_ ?_
        rotate_left
        ·go_simp
         rfl
        refine hK.out _ _ ?_
        clear hK K
        refine done_ (done_of HT_.out m_19) ?_
        try go_wp2
        go_roundg k1
        case measure => have := HK1.out; omega
        case rel => exact ⟨(wrap64 (x24_1 + 1)), (t683), (t684), (t687), (t688), (.slice Ao43 t684.length co43), (.slice Ao46 t688.length co46), m_14, H', ⟨m_117⟩, ⟨(by (with_reducible repeat (first | apply Kd.N_alloc | apply Kd.N_drewN | apply Kd.N_drew)); exact Kd.N_mono (Kd.N_far (p := ⟨gb663, 3, none⟩) (Kd.N_far (p := ⟨gb663, 2, none⟩) (Kd.N_far (p := ⟨gb663, 1, none⟩) (Kd.N_far (p := ⟨gb663, 0, none⟩) (Kd.N_mono HO_22.out (fun k_ hk => (⟨hk, hk.2.2.2.1⟩ : _ ∧ k_ ≠ gb663))) (fun _ hk => hk.2) (.bool t683)) (fun _ hk => hk.2) (.slice Ao43 t684.length co43)) (fun _ hk => hk.2) (.bool t687)) (fun _ hk => hk.2) (.slice Ao46 t688.length co46)) (fun _ hk => ⟨hk.1.1, ⟨hk.1.2.1, ⟨hk.1.2.2.1, hk.1.2.2.2.1⟩⟩⟩))⟩, ⟨(by (with_reducible repeat (first | apply Kd.V_alloc | apply Kd.V_drewN | apply Kd.V_drew)); exact Kd.V_mono (Kd.V_far (p := ⟨gb663, 3, none⟩) (Kd.V_far (p := ⟨gb663, 2, none⟩) (Kd.V_far (p := ⟨gb663, 1, none⟩) (Kd.V_far (p := ⟨gb663, 0, none⟩) (Kd.V_mono HO_650001.out (fun k_ hk => (⟨hk, hk.2.2.2.2.1⟩ : _ ∧ k_ ≠ gb663))) (fun _ hk => hk.2) (.bool t683)) (fun _ hk => hk.2) (.slice Ao43 t684.length co43)) (fun _ hk => hk.2) (.bool t687)) (fun _ hk => hk.2) (.slice Ao46 t688.length co46)) (fun _ hk => ⟨hk.1.1, ⟨hk.1.2.1, ⟨hk.1.2.2.1, ⟨hk.1.2.2.2.1, hk.1.2.2.2.2.1⟩⟩⟩⟩))⟩, ⟨(by (with_reducible repeat (first | apply Kd.V_alloc | apply Kd.V_drewN | apply Kd.V_drew)); exact Kd.V_mono (Kd.V_far (p := ⟨gb663, 3, none⟩) (Kd.V_far (p := ⟨gb663, 2, none⟩) (Kd.V_far (p := ⟨gb663, 1, none⟩) (Kd.V_far (p := ⟨gb663, 0, none⟩) (Kd.V_mono HO_650003.out (fun k_ hk => (⟨hk, hk.2.2.2.2.1⟩ : _ ∧ k_ ≠ gb663))) (fun _ hk => hk.2) (.bool t683)) (fun _ hk => hk.2) (.slice Ao43 t684.length co43)) (fun _ hk => hk.2) (.bool t687)) (fun _ hk => hk.2) (.slice Ao46 t688.length co46)) (fun _ hk => ⟨hk.1.1, ⟨hk.1.2.1, ⟨hk.1.2.2.1, ⟨hk.1.2.2.2.1, hk.1.2.2.2.2.1⟩⟩⟩⟩))⟩, ⟨(by (with_reducible repeat (first | apply Kd.V_alloc | apply Kd.V_drewN | apply Kd.V_drew)); exact Kd.V_mono (Kd.V_far (p := ⟨gb663, 3, none⟩) (Kd.V_far (p := ⟨gb663, 2, none⟩) (Kd.V_far (p := ⟨gb663, 1, none⟩) (Kd.V_far (p := ⟨gb663, 0, none⟩) (Kd.V_mono HO686.out (fun k_ hk => (⟨hk, hk.2.2.2.2.1⟩ : _ ∧ k_ ≠ gb663))) (fun _ hk => hk.2) (.bool t683)) (fun _ hk => hk.2) (.slice Ao43 t684.length co43)) (fun _ hk => hk.2) (.bool t687)) (fun _ hk => hk.2) (.slice Ao46 t688.length co46)) (fun _ hk => ⟨hk.1.1, ⟨hk.1.2.1, ⟨hk.1.2.2.1, ⟨hk.1.2.2.2.1, hk.1.2.2.2.2.1⟩⟩⟩⟩))⟩, ⟨(by (with_reducible repeat (first | apply Kd.V_alloc | apply Kd.V_drewN | apply Kd.V_drew)); exact Kd.V_mono (Kd.V_far (p := ⟨gb663, 3, none⟩) (Kd.V_far (p := ⟨gb663, 2, none⟩) (Kd.V_far (p := ⟨gb663, 1, none⟩) (Kd.V_far (p := ⟨gb663, 0, none⟩) (Kd.V_mono HO690.out (fun k_ hk => (⟨hk, hk.2.2.2.2.1⟩ : _ ∧ k_ ≠ gb663))) (fun _ hk => hk.2) (.bool t683)) (fun _ hk => hk.2) (.slice Ao43 t684.length co43)) (fun _ hk => hk.2) (.bool t687)) (fun _ hk => hk.2) (.slice Ao46 t688.length co46)) (fun _ hk => ⟨hk.1.1, ⟨hk.1.2.1, ⟨hk.1.2.2.1, ⟨hk.1.2.2.2.1, hk.1.2.2.2.2.1⟩⟩⟩⟩))⟩, ⟨m_65⟩, ⟨m_64⟩, ⟨(by (with_reducible repeat (first | refine blk_drewN ?_ _ | refine blk_drew ?_ | refine blk_alloc ?_ _)); refine blk_put (cs := #[.bool t683, .slice Ao43 t684.length co43, .bool t687, .slice Ao38 x664003_1.length co38]) ?_ 3 _ rfl; (with_reducible repeat (first | refine blk_drewN ?_ _ | refine blk_drew ?_ | refine blk_alloc ?_ _)); refine blk_put (cs := #[.bool t683, .slice Ao43 t684.length co43, .bool x664002_1, .slice Ao38 x664003_1.length co38]) ?_ 2 _ rfl; (with_reducible repeat (first | refine blk_drewN ?_ _ | refine blk_drew ?_ | refine blk_alloc ?_ _)); refine blk_put (cs := #[.bool t683, .slice Ao37 x664001_1.length co37, .bool x664002_1, .slice Ao38 x664003_1.length co38]) ?_ 1 _ rfl; (with_reducible repeat (first | refine blk_drewN ?_ _ | refine blk_drew ?_ | refine blk_alloc ?_ _)); refine blk_put (cs := #[.bool x664000_1, .slice Ao37 x664001_1.length co37, .bool x664002_1, .slice Ao38 x664003_1.length co38]) ?_ 0 _ rfl; (with_reducible repeat (first | refine blk_drewN ?_ _ | refine blk_drew ?_ | refine blk_alloc ?_ _)); exact BK663.out)⟩, ⟨m_12⟩⟩
       ·rw [if_neg c22] at H
        exact absurd H (by simp)
      ·rw [if_neg c21] at H
       exact absurd H (by simp)
     ·rw [if_neg c20] at H
      exact absurd H (by simp)
    ·rw [if_neg c19] at H
     have c19b0 : decide (x24_1 < (t651.length : Int)) = false := decide_eq_false c19
     clear c19
     simp only [Option.some.injEq, Prod.mk.injEq] at H
     obtain ⟨rfl, rfl, rfl, rfl, rfl⟩ := H
     obtain ⟨hcz50_0, hcz50_1, hcz50_2, hcz50_3, hfz50_0, hfz50_1, hfz50_2, hfz50_3⟩ := cf4_ BK663
     obtain ⟨hcz52_0, hcz52_1, hcz52_2, hcz52_3, hfz52_0, hfz52_1, hfz52_2, hfz52_3⟩ := cf4_ BK650
     obtain ⟨Ao53, co53, eo53⟩ := Kd.V_slice HO_664001.out
     subst eo53
     obtain ⟨Ao54, co54, eo54⟩ := Kd.V_slice HO_664003.out
     subst eo54
     go_wp2
     refine bodyPost_ret (results_ct rfl _ _ gb650 66 #[.bool x664000_1, .slice Ao53 x664001_1.length co53, .bool x664002_1, .slice Ao54 x664003_1.length co54] (0, 0) _ rfl (by (with_reducible repeat (first | refine blk_drewN ?_ _ | refine blk_drew ?_ | refine blk_alloc ?_ _)); refine blk_put (cs := #[.bool x664000_1, .slice Ao53 x664001_1.length co53, .bool x664002_1, .slice none 0 0]) ?_ 3 _ rfl; (with_reducible repeat (first | refine blk_drewN ?_ _ | refine blk_drew ?_ | refine blk_alloc ?_ _)); refine blk_put (cs := #[.bool x664000_1, .slice Ao53 x664001_1.length co53, .bool false, .slice none 0 0]) ?_ 2 _ rfl; (with_reducible repeat (first | refine blk_drewN ?_ _ | refine blk_drew ?_ | refine blk_alloc ?_ _)); refine blk_put (cs := #[.bool x664000_1, .slice none 0 0, .bool false, .slice none 0 0]) ?_ 1 _ rfl; (with_reducible repeat (first | refine blk_drewN ?_ _ | refine blk_drew ?_ | refine blk_alloc ?_ _)); refine blk_put (cs := #[.bool false, .slice none 0 0, .bool false, .slice none 0 0]) ?_ 0 _ rfl; (with_reducible repeat (first | refine blk_drewN ?_ _ | refine blk_drew ?_ | refine blk_alloc ?_ _)); exact BK650.out) Try.underlying66 rfl m_19) rfl ?_
     exact ⟨_, _, m_3, (by (with_reducible repeat (first | apply Kd.V_alloc | apply Kd.V_drewN | apply Kd.V_drew)); exact Kd.V_mono (Kd.V_far (p := ⟨gb650, 3, none⟩) (Kd.V_far (p := ⟨gb650, 2, none⟩) (Kd.V_far (p := ⟨gb650, 1, none⟩) (Kd.V_far (p := ⟨gb650, 0, none⟩) (Kd.V_mono HO_664001.out (fun k_ hk => (⟨hk, hk.2.2.2.1⟩ : _ ∧ k_ ≠ gb650))) (fun _ hk => hk.2) (.bool x664000_1)) (fun _ hk => hk.2) (.slice Ao53 x664001_1.length co53)) (fun _ hk => hk.2) (.bool x664002_1)) (fun _ hk => hk.2) (.slice Ao54 x664003_1.length co54)) (fun _ hk => hk.1.1)), (by (with_reducible repeat (first | apply Kd.V_alloc | apply Kd.V_drewN | apply Kd.V_drew)); exact Kd.V_mono (Kd.V_far (p := ⟨gb650, 3, none⟩) (Kd.V_far (p := ⟨gb650, 2, none⟩) (Kd.V_far (p := ⟨gb650, 1, none⟩) (Kd.V_far (p := ⟨gb650, 0, none⟩) (Kd.V_mono HO_664003.out (fun k_ hk => (⟨hk, hk.2.2.2.1⟩ : _ ∧ k_ ≠ gb650))) (fun _ hk => hk.2) (.bool x664000_1)) (fun _ hk => hk.2) (.slice Ao53 x664001_1.length co53)) (fun _ hk => hk.2) (.bool x664002_1)) (fun _ hk => hk.2) (.slice Ao54 x664003_1.length co54)) (fun _ hk => hk.1.1)), m_52⟩
 ·rw [if_neg c4] at H
  cases H
end Go.Proofs.Ytelklgdmhnkenaa.U
namespace Go.Proofs.Ytelklgdmhnkenaa.U
attribute [local go_sem] max2_int min2_int max_two min_two max_three min_three max_four min_four
def energy_part.f (k : Nat) (l0 : List (S99)) (a1 : Int) : Option (Int) := (frac_FromInt64.f a1).bind fun bt691 => ((step_Cost.f k l0 bt691.1 bt691.2.1 bt691.2.2.1 bt691.2.2.2).bind fun bt699 => ((whole_Int64.f bt699.1 bt699.2.1).bind fun bt709 => (some bt709.1)))
set_option maxHeartbeats 8000000 in
set_option maxRecDepth 100000 in
theorem energy_part.calls (k : Nat) (A0 : Option Addr) (c0 : Nat) (l0 : List (S99)) (a1 : Int) (r : Int) (w : World) (hr0 : Kd.C k99 w A0 l0.length l0) (hc0 : l0.length ≤ c0) (h : energy_part.f k l0 a1 = some r) :
  Calls Try.prog 54 #[.slice A0 l0.length c0, .int .i64 a1] w fun e w' => e = .returned (.int .i64 r) ∧ Below w.heap.size w w' := by
 have HR0 := Aside0.mk hr0
 have HC0 := Aside0.mk hc0
 clear hr0 hc0
 have HB := Aside0.mk (Below.refl w.heap.size w)
 have H : ((frac_FromInt64.f a1).bind fun bt691 => ((step_Cost.f k l0 bt691.1 bt691.2.1 bt691.2.2.1 bt691.2.2.2).bind fun bt699 => ((whole_Int64.f bt699.1 bt699.2.1).bind fun bt709 => (some bt709.1)))) = some r := h
 clear h
 replace H := Option.bind_eq_some_iff.mp H
 obtain ⟨⟨t691, t692, t695, t696⟩, A30, H⟩ := H
 replace H : ((step_Cost.f k l0 t691 t692 t695 t696).bind fun bt699 => ((whole_Int64.f bt699.1 bt699.2.1).bind fun bt709 => (some bt709.1))) = some r := H
 have A3 := Aside0.mk A30
 clear A30
 replace H := Option.bind_eq_some_iff.mp H
 obtain ⟨⟨t699, t700, t703, t704, t707⟩, A40, H⟩ := H
 replace H : ((whole_Int64.f t699 t700).bind fun bt709 => (some bt709.1)) = some r := H
 have A4 := Aside0.mk A40
 clear A40
 replace H := Option.bind_eq_some_iff.mp H
 obtain ⟨⟨t709, t710⟩, A50, H⟩ := H
 replace H : (some t709) = some r := H
 have A5 := Aside0.mk A50
 clear A50
 obtain rfl := Option.some.inj H
 go_enter Try.func54, Try.ntmps54
 go_wp2_with (first | ((with_reducible refine gate_callee (f := 39) rfl ?_); refine goesL_ (some 12) rfl rfl Try.func39 m_19 rfl #[.int .i64 a1] rfl m_2 ?_; (with_reducible refine (frac_FromInt64.calls a1 t691 t692 t695 t696 _ A3.out).mono ?_); rintro e w6 ⟨v693, v697, rfl, ho0, ho1, hb⟩; refine ⟨_, rfl, ?_⟩; have HO694 := Aside0.mk (Kd.V_lower (Kd.V_mono (ok' := fun k_ => True) ho0 (fun k_ hk_ => trivial)) (below_size m_1)); have HO698 := Aside0.mk (Kd.V_lower (Kd.V_mono (ok' := fun k_ => True) ho1 (fun k_ hk_ => trivial)) (below_size m_1)); replace HB := Aside0.mk (below_step m_1 hb); clear hb; (try clear ho0); (try clear ho1); obtain ⟨Ao7, co7, eo7⟩ := Kd.V_slice HO694.out; subst eo7; obtain ⟨Ao8, co8, eo8⟩ := Kd.V_slice HO698.out; subst eo8) | ((with_reducible refine gate_callee (f := 38) rfl ?_); refine goesL_ (some 13) rfl rfl Try.func38 m_19 rfl #[.slice A0 l0.length c0, .agg #[.bool t691, .slice Ao7 t692.length co7, .bool t695, .slice Ao8 t696.length co8]] rfl m_2 ?_; (with_reducible refine (step_Cost.calls k _ _ l0 t691 (fun k_ => True) _ _ t692 t695 (fun k_ => True) _ _ t696 t699 t700 t703 t704 t707 _ ?side1 ?side2 ?side3 ?side4 A4.out).mono ?_); (case side1 => exact cA_ (Kd.C_below HR0.out HB.out)); (case side2 => exact HC0.out); (case side3 => exact HO694.out); (case side4 => exact HO698.out); rintro e w9 ⟨v701, v705, rfl, ho0, ho1, hb⟩; refine ⟨_, rfl, ?_⟩; have HO702 := Aside0.mk (Kd.V_lower (Kd.V_mono (ok' := fun k_ => True) ho0 (fun k_ hk_ => trivial)) (below_size m_1)); have HO706 := Aside0.mk (Kd.V_lower (Kd.V_mono (ok' := fun k_ => True) ho1 (fun k_ hk_ => trivial)) (below_size m_1)); replace HB := Aside0.mk (below_step m_1 hb); clear hb; (try clear ho0); (try clear ho1)) | ((with_reducible refine gate_dst (N := 5) rfl ?_); refine box_event ?hg (N := 5) ?hd (cs := #[.bool false, .slice none 0 0, .bool false, .slice none 0 0]) (t := 66) ?hr ?_; (case hd => rfl); (case hg => rfl); (case hr => exact hr_); intro gb708 hg w10 hbox hb; have BK708 := Aside0.mk (hbox); have GE708 := gW_ (w := w) hg m_1; replace HO702 := vE_ HO702 hg hb; replace HO706 := vE_ HO706 hg hb; replace HB := Aside0.mk (below_step m_1 hb); clear hb hbox hg; obtain ⟨hcz11_0, hcz11_1, hcz11_2, hcz11_3, hfz11_0, hfz11_1, hfz11_2, hfz11_3⟩ := cf4_ BK708; obtain ⟨Ao12, co12, eo12⟩ := Kd.V_slice HO702.out; subst eo12; obtain ⟨Ao13, co13, eo13⟩ := Kd.V_slice HO706.out; subst eo13) | ((with_reducible refine gate_callee (f := 68) rfl ?_); refine goesL_ (some 19) rfl rfl Try.func68 m_19 rfl #[.agg #[.bool t699, .slice Ao12 t700.length co12]] rfl m_2 ?_; (with_reducible refine (whole_Int64.calls t699 _ _ t700 t709 t710 _ ?side1 ?side2 A5.out).mono ?_); (case side1 => refine (Kd.V_reads' (e := 117) (base := w.heap.size) (ok := fun k_ => (True ∧ k_ ≠ gb708)) (n := t700.length) (c := co12) ?_).2.2; exact m_70); (case side2 => exact (Kd.V_reads' HO702.out).2.1); rintro e w14 ⟨rfl, hb⟩; refine ⟨_, rfl, ?_⟩; replace HB := Aside0.mk (below_step m_129 hb); clear hb; (try clear hk)))
 go_ret
 exact ⟨m_3, m_129⟩
end Go.Proofs.Ytelklgdmhnkenaa.U
namespace Go.Proofs.Ytelklgdmhnkenaa.U
attribute [local go_sem] max2_int min2_int max_two min_two max_three min_three max_four min_four
def unit_within_int.f (a0 : Int) (a1 : Int) (a2 : Int) : Option (Bool) := if a0 ≥ a1 then (some (decide (a0 ≤ a2))) else (some false)
set_option maxHeartbeats 8000000 in
set_option maxRecDepth 100000 in
theorem unit_within_int.calls (a0 : Int) (a1 : Int) (a2 : Int) (r : Bool) (w : World) (h : unit_within_int.f a0 a1 a2 = some r) :
  Calls Try.prog 45 #[.int .i64 a0, .int .i64 a1, .int .i64 a2] w fun e w' => e = .returned (.bool r) ∧ Drawn0 w w' := by
 have H : (if a0 ≥ a1 then (some (decide (a0 ≤ a2))) else (some false)) = some r := h
 clear h
 by_cases c4 : a0 ≥ a1
 ·rw [if_pos c4] at H
  have c4b0 : decide (a1 ≤ a0) = true := decide_eq_true c4
  clear c4
  obtain rfl := Option.some.inj H
  go_enter Try.func45, Try.ntmps45
  go_wp2
  go_ret
  exact ⟨m_14, m_28⟩
 ·rw [if_neg c4] at H
  have c4b0 : decide (a1 ≤ a0) = false := decide_eq_false c4
  clear c4
  obtain rfl := Option.some.inj H
  go_enter Try.func45, Try.ntmps45
  go_wp2
  go_ret
  exact ⟨m_14, m_28⟩
end Go.Proofs.Ytelklgdmhnkenaa.U
namespace Go.Proofs.Ytelklgdmhnkenaa.U
attribute [local go_sem] max2_int min2_int max_two min_two max_three min_three max_four min_four
def unit_within_int64.f (a0 : Int) (a1 : Int) (a2 : Int) : Option (Bool) := if a0 ≥ a1 then (some (decide (a0 ≤ a2))) else (some false)
set_option maxHeartbeats 8000000 in
set_option maxRecDepth 100000 in
theorem unit_within_int64.calls (a0 : Int) (a1 : Int) (a2 : Int) (r : Bool) (w : World) (h : unit_within_int64.f a0 a1 a2 = some r) :
  Calls Try.prog 58 #[.int .i64 a0, .int .i64 a1, .int .i64 a2] w fun e w' => e = .returned (.bool r) ∧ Drawn0 w w' := by
 have H : (if a0 ≥ a1 then (some (decide (a0 ≤ a2))) else (some false)) = some r := h
 clear h
 by_cases c4 : a0 ≥ a1
 ·rw [if_pos c4] at H
  have c4b0 : decide (a1 ≤ a0) = true := decide_eq_true c4
  clear c4
  obtain rfl := Option.some.inj H
  go_enter Try.func58, Try.ntmps58
  go_wp2
  go_ret
  exact ⟨m_14, m_28⟩
 ·rw [if_neg c4] at H
  have c4b0 : decide (a1 ≤ a0) = false := decide_eq_false c4
  clear c4
  obtain rfl := Option.some.inj H
  go_enter Try.func58, Try.ntmps58
  go_wp2
  go_ret
  exact ⟨m_14, m_28⟩
end Go.Proofs.Ytelklgdmhnkenaa.U
namespace Go.Proofs.Ytelklgdmhnkenaa.U
attribute [local go_sem] max2_int min2_int max_two min_two max_three min_three max_four min_four
def unit_Max.f (k : Nat) (a0_0 : Int) (a0_1 : Int) (l0_2 : List (S99)) (a0_3 : Int) (a0_4 : Int) (a0_5 : Int) (a0_6 : Int) (a0_7 : Int) (a0_8 : Int) : Option (Int) := (step_CheckOffer.f l0_2).bind fun t108 => (if t108 = 0 then ((step_Sum.f k l0_2).bind fun t109 => (some t109)) else (some 0))
set_option maxHeartbeats 8000000 in
set_option maxRecDepth 100000 in
theorem unit_Max.calls (k : Nat) (a0_0 : Int) (a0_1 : Int) (A0_2 : Option Addr) (c0_2 : Nat) (l0_2 : List (S99)) (a0_3 : Int) (a0_4 : Int) (a0_5 : Int) (a0_6 : Int) (a0_7 : Int) (a0_8 : Int) (r : Int) (w : World) (hr0_2 : Kd.C k99 w A0_2 l0_2.length l0_2) (hc0_2 : l0_2.length ≤ c0_2) (h : unit_Max.f k a0_0 a0_1 l0_2 a0_3 a0_4 a0_5 a0_6 a0_7 a0_8 = some r) :
  Calls Try.prog 37 #[.agg #[.int .i64 a0_0, .int .i64 a0_1, .slice A0_2 l0_2.length c0_2, .int .i64 a0_3, .int .i64 a0_4, .int .i64 a0_5, .int .i64 a0_6, .int .i64 a0_7, .int .i64 a0_8]] w fun e w' => e = .returned (.int .i64 r) ∧ Below w.heap.size w w' := by
 have HR0_2 := Aside0.mk hr0_2
 have HC0_2 := Aside0.mk hc0_2
 clear hr0_2 hc0_2
 have HB := Aside0.mk (Below.refl w.heap.size w)
 have H : ((step_CheckOffer.f l0_2).bind fun t108 => (if t108 = 0 then ((step_Sum.f k l0_2).bind fun t109 => (some t109)) else (some 0))) = some r := h
 clear h
 replace H := Option.bind_eq_some_iff.mp H
 obtain ⟨t108, A20, H⟩ := H
 replace H : (if t108 = 0 then ((step_Sum.f k l0_2).bind fun t109 => (some t109)) else (some 0)) = some r := H
 have A2 := Aside0.mk A20
 clear A20
 by_cases c3 : t108 = 0
 ·rw [if_pos c3] at H
  have c3b1 : (t108 != 0) = false := bne_eq_false_iff_eq.mpr c3
  clear c3
  replace H := Option.bind_eq_some_iff.mp H
  obtain ⟨t109, A40, H⟩ := H
  replace H : (some t109) = some r := H
  have A4 := Aside0.mk A40
  clear A40
  obtain rfl := Option.some.inj H
  go_enter Try.func37, Try.ntmps37
  go_wp2_with (first | ((with_reducible refine gate_dst (N := 1) rfl ?_); refine box_event ?hg (N := 1) ?hd (cs := #[.int .i64 a0_0, .int .i64 a0_1, .slice A0_2 l0_2.length c0_2, .int .i64 a0_3, .int .i64 a0_4, .int .i64 a0_5, .int .i64 a0_6, .int .i64 a0_7, .int .i64 a0_8]) (t := 24) ?hr ?_; (case hd => rfl); (case hg => rfl); (case hr => exact hr_); intro gb107 hg w5 hbox hb; have BK107 := Aside0.mk (hbox); replace HB := Aside0.mk (below_step m_1 hb); clear hb hbox hg; obtain ⟨hcz6_0, hcz6_1, hcz6_2, hcz6_3, hcz6_4, hcz6_5, hcz6_6, hcz6_7, hcz6_8, hfz6_0, hfz6_1, hfz6_2, hfz6_3, hfz6_4, hfz6_5, hfz6_6, hfz6_7, hfz6_8⟩ := cf9_ BK107) | ((with_reducible refine gate_callee (f := 57) rfl ?_); refine goesL_ (some 5) rfl rfl Try.func57 m_19 rfl #[.slice A0_2 l0_2.length c0_2] rfl m_2 ?_; (with_reducible refine (step_CheckOffer.calls _ _ l0_2 t108 _ ?side1 ?side2 A2.out).mono ?_); (case side1 => exact cA_ (Kd.C_below HR0_2.out HB.out)); (case side2 => exact HC0_2.out); rintro e w7 ⟨rfl, hb⟩; refine ⟨_, rfl, ?_⟩; replace BK107 := bB_ BK107 hb; replace HB := Aside0.mk (below_step m_66 hb); clear hb; obtain ⟨hcz8_0, hcz8_1, hcz8_2, hcz8_3, hcz8_4, hcz8_5, hcz8_6, hcz8_7, hcz8_8, hfz8_0, hfz8_1, hfz8_2, hfz8_3, hfz8_4, hfz8_5, hfz8_6, hfz8_7, hfz8_8⟩ := cf9_ BK107) | ((with_reducible refine gate_callee (f := 59) rfl ?_); refine goesL_ (some 9) rfl rfl Try.func59 m_19 rfl #[.slice A0_2 l0_2.length c0_2] rfl m_2 ?_; (with_reducible refine (step_Sum.calls k _ _ l0_2 t109 _ ?side1 ?side2 A4.out).mono ?_); (case side1 => exact cA_ (Kd.C_below HR0_2.out HB.out)); (case side2 => exact HC0_2.out); rintro e w9 ⟨rfl, hb⟩; refine ⟨_, rfl, ?_⟩; replace HB := Aside0.mk (below_step m_66 hb); clear hb))
  go_ret
  exact ⟨m_3, m_66⟩
 ·rw [if_neg c3] at H
  have c3b1 : (t108 != 0) = true := bne_iff_ne.mpr c3
  obtain rfl := Option.some.inj H
  go_enter Try.func37, Try.ntmps37
  go_wp2_with (first | ((with_reducible refine gate_dst (N := 1) rfl ?_); refine box_event ?hg (N := 1) ?hd (cs := #[.int .i64 a0_0, .int .i64 a0_1, .slice A0_2 l0_2.length c0_2, .int .i64 a0_3, .int .i64 a0_4, .int .i64 a0_5, .int .i64 a0_6, .int .i64 a0_7, .int .i64 a0_8]) (t := 24) ?hr ?_; (case hd => rfl); (case hg => rfl); (case hr => exact hr_); intro gb107 hg w10 hbox hb; have BK107 := Aside0.mk (hbox); replace HB := Aside0.mk (below_step m_1 hb); clear hb hbox hg; obtain ⟨hcz11_0, hcz11_1, hcz11_2, hcz11_3, hcz11_4, hcz11_5, hcz11_6, hcz11_7, hcz11_8, hfz11_0, hfz11_1, hfz11_2, hfz11_3, hfz11_4, hfz11_5, hfz11_6, hfz11_7, hfz11_8⟩ := cf9_ BK107) | ((with_reducible refine gate_callee (f := 57) rfl ?_); refine goesL_ (some 5) rfl rfl Try.func57 m_19 rfl #[.slice A0_2 l0_2.length c0_2] rfl m_2 ?_; (with_reducible refine (step_CheckOffer.calls _ _ l0_2 t108 _ ?side1 ?side2 A2.out).mono ?_); (case side1 => exact cA_ (Kd.C_below HR0_2.out HB.out)); (case side2 => exact HC0_2.out); rintro e w12 ⟨rfl, hb⟩; refine ⟨_, rfl, ?_⟩; replace HB := Aside0.mk (below_step m_66 hb); clear hb))
  go_ret
  exact ⟨m_3, m_66⟩
end Go.Proofs.Ytelklgdmhnkenaa.U
namespace Go.Proofs.Ytelklgdmhnkenaa.U
attribute [local go_sem] max2_int min2_int max_two min_two max_three min_three max_four min_four
mutual
def unit_Check.j0 : Nat → Bool → Int → Int → List (S99) → Int → Int → Int → Int → Int → Int → Option (Int)
 | 0, _, _, _, _, _, _, _, _, _, _ => none
 | k + 1, x18, x111000, x111001, x111002, x111003, x111004, x111005, x111006, x111007, x111008 => if x18 = true then (some 1) else ((step_CheckOffer.f x111002).bind fun t112 => (if t112 = 0 then ((unit_Max.f k x111000 x111001 x111002 x111003 x111004 x111005 x111006 x111007 x111008).bind fun t113 => ((unit_within_int64.f x111001 0 t113).bind fun t114 => (if t114 = true then ((unit_within_int64.f x111007 0 1000000).bind fun t115 => (unit_Check.j1 k t115 x111000 x111001 x111002 x111003 x111004 x111005 x111006 x111007 x111008)) else (unit_Check.j1 k false x111000 x111001 x111002 x111003 x111004 x111005 x111006 x111007 x111008)))) else (some t112)))
def unit_Check.j1 : Nat → Bool → Int → Int → List (S99) → Int → Int → Int → Int → Int → Int → Option (Int)
 | 0, _, _, _, _, _, _, _, _, _, _ => none
 | k + 1, x6, x111000, x111001, x111002, x111003, x111004, x111005, x111006, x111007, x111008 => (unit_within_int.f x111003 1 6).bind fun t116 => (if t116 = true then ((unit_within_int.f x111004 1 6).bind fun t117 => (if t117 = true then ((unit_within_int.f x111008 (-6) 6).bind fun t118 => (if t118 = true then (unit_Check.j2 k x6 (x111008 != 0) x111000 x111001 x111002 x111003 x111004 x111005 x111006 x111007 x111008) else (unit_Check.j2 k x6 false x111000 x111001 x111002 x111003 x111004 x111005 x111006 x111007 x111008))) else (unit_Check.j2 k x6 false x111000 x111001 x111002 x111003 x111004 x111005 x111006 x111007 x111008))) else (unit_Check.j2 k x6 false x111000 x111001 x111002 x111003 x111004 x111005 x111006 x111007 x111008))
def unit_Check.j2 : Nat → Bool → Bool → Int → Int → List (S99) → Int → Int → Int → Int → Int → Int → Option (Int)
 | 0, _, _, _, _, _, _, _, _, _, _, _ => none
 | k + 1, x6, x7, x111000, x111001, x111002, x111003, x111004, x111005, x111006, x111007, x111008 => (unit_within_int64.f x111005 0 1000000000).bind fun t119 => (if t119 = true then ((unit_within_int64.f x111006 0 1000000000).bind fun t120 => (if x6 = true then (if x7 = true then (if t120 = true then (some 0) else (some 1)) else (some 1)) else (some 1))) else (if x6 = true then (if x7 = true then (some 1) else (some 1)) else (some 1)))
end
def unit_Check.f (k : Nat) (a0_0 : Int) (a0_1 : Int) (l0_2 : List (S99)) (a0_3 : Int) (a0_4 : Int) (a0_5 : Int) (a0_6 : Int) (a0_7 : Int) (a0_8 : Int) (a1 : Int) : Option (Int) := (unit_within_int.f a0_0 0 (wrap64 (a1 - 1))).bind fun t111 => (if t111 = true then (unit_Check.j0 k (decide (a1 < 1)) a0_0 a0_1 l0_2 a0_3 a0_4 a0_5 a0_6 a0_7 a0_8) else (unit_Check.j0 k true a0_0 a0_1 l0_2 a0_3 a0_4 a0_5 a0_6 a0_7 a0_8))
def unit_Check.T6 : Bool × List (List Nat × List Nat) := (true, [([], []), ([0], [0]), ([], []), ([2], [2]), ([1, 3, 3], [1, 3]), ([4, 4], [4]), ([5], [5]), ([6, 5], [5, 6]), ([7, 5, 5], [5, 7]), ([5, 8], [5, 8]), ([9, 8, 0, 1, 2, 3, 4, 5, 6, 7, 8, 9], [9])])
def unit_Check.B6 : List Nat := [0, 1, 0, 4, 15, 31, 63, 127, 255, 511, 1023]
theorem unit_Check.tab6 : rtab .any (opsOf Try.f34 6) = unit_Check.T6 := by kernel_rfl
theorem unit_Check.bits6 : waitsOk unit_Check.T6.2 unit_Check.B6 = true := by kernel_rfl
set_option maxHeartbeats 8000000 in
set_option maxRecDepth 100000 in
theorem unit_Check.calls (k : Nat) (a0_0 : Int) (a0_1 : Int) (A0_2 : Option Addr) (c0_2 : Nat) (l0_2 : List (S99)) (a0_3 : Int) (a0_4 : Int) (a0_5 : Int) (a0_6 : Int) (a0_7 : Int) (a0_8 : Int) (a1 : Int) (r : Int) (w : World) (hr0_2 : Kd.C k99 w A0_2 l0_2.length l0_2) (hc0_2 : l0_2.length ≤ c0_2) (h : unit_Check.f k a0_0 a0_1 l0_2 a0_3 a0_4 a0_5 a0_6 a0_7 a0_8 a1 = some r) :
  Calls Try.prog 34 #[.agg #[.int .i64 a0_0, .int .i64 a0_1, .slice A0_2 l0_2.length c0_2, .int .i64 a0_3, .int .i64 a0_4, .int .i64 a0_5, .int .i64 a0_6, .int .i64 a0_7, .int .i64 a0_8], .int .i64 a1] w fun e w' => e = .returned (.int .i64 r) ∧ Below w.heap.size w w' := by
 have HR0_2 := Aside0.mk hr0_2
 have HC0_2 := Aside0.mk hc0_2
 clear hr0_2 hc0_2
 have HB := Aside0.mk (Below.refl w.heap.size w)
 have H : ((unit_within_int.f a0_0 0 (wrap64 (a1 - 1))).bind fun t111 => (if t111 = true then (unit_Check.j0 k (decide (a1 < 1)) a0_0 a0_1 l0_2 a0_3 a0_4 a0_5 a0_6 a0_7 a0_8) else (unit_Check.j0 k true a0_0 a0_1 l0_2 a0_3 a0_4 a0_5 a0_6 a0_7 a0_8))) = some r := h
 clear h
 have HC3 := Aside0.mk H
 clear H
 go_enter Try.func34, Try.ntmps34
 go_upto_region 1 with (first | ((with_reducible refine gate_dst (N := 2) rfl ?_); refine box_event ?hg (N := 2) ?hd (cs := #[.int .i64 a0_0, .int .i64 a0_1, .slice A0_2 l0_2.length c0_2, .int .i64 a0_3, .int .i64 a0_4, .int .i64 a0_5, .int .i64 a0_6, .int .i64 a0_7, .int .i64 a0_8]) (t := 24) ?hr ?_; (case hd => rfl); (case hg => rfl); (case hr => exact hr_); intro gb110 hg w4 hbox hb; have BK110 := Aside0.mk (hbox); replace HB := Aside0.mk (below_step m_1 hb); clear hb hbox hg))
 (try simp only [Act.put, List.setIfInBounds_toArray, List.set_cons_zero, List.set_cons_succ])
 go_cut [18] (fun v18 wc => ∃ (kq : Nat) (x18_2 : Bool), v18 = .bool x18_2 ∧ Aside0 (unit_Check.j0 kq x18_2 a0_0 a0_1 l0_2 a0_3 a0_4 a0_5 a0_6 a0_7 a0_8 = some r) ∧ Aside0 (kq ≤ k) ∧ Aside0 (wc.heap[gb110]? = some (.cells #[.int .i64 a0_0, .int .i64 a0_1, (.slice A0_2 l0_2.length c0_2), .int .i64 a0_3, .int .i64 a0_4, .int .i64 a0_5, .int .i64 a0_6, .int .i64 a0_7, .int .i64 a0_8] 24 (0, 0))) ∧ Aside0 (Below w.heap.size w wc))
 case first =>
  have H := HC3.out
  clear HC3
  replace H := Option.bind_eq_some_iff.mp H
  obtain ⟨t111, A50, H⟩ := H
  replace H : (if t111 = true then (unit_Check.j0 k (decide (a1 < 1)) a0_0 a0_1 l0_2 a0_3 a0_4 a0_5 a0_6 a0_7 a0_8) else (unit_Check.j0 k true a0_0 a0_1 l0_2 a0_3 a0_4 a0_5 a0_6 a0_7 a0_8)) = some r := H
  have A5 := Aside0.mk A50
  clear A50
  by_cases c6 : t111 = true
  ·subst c6
   have H1 : (unit_Check.j0 k (decide (a1 < 1)) a0_0 a0_1 l0_2 a0_3 a0_4 a0_5 a0_6 a0_7 a0_8) = some r := by rw [if_pos rfl] at H; exact H
   clear H
   have H := H1
   clear H1
   have H' := Aside0.mk H
   clear H
   obtain ⟨hcz7_0, hcz7_1, hcz7_2, hcz7_3, hcz7_4, hcz7_5, hcz7_6, hcz7_7, hcz7_8, hfz7_0, hfz7_1, hfz7_2, hfz7_3, hfz7_4, hfz7_5, hfz7_6, hfz7_7, hfz7_8⟩ := cf9_ BK110
   go_wp2_with (first | ((with_reducible refine gate_callee (f := 45) rfl ?_); refine goesL_ (some 13) rfl rfl Try.func45 m_19 rfl #[.int .i64 a0_0, .int .i64 0, .int .i64 (wrap64 (a1 - 1))] rfl m_2 ?_; (with_reducible refine (unit_within_int.calls a0_0 0 (wrap64 (a1 - 1)) true _ A5.out).mono ?_); rintro e w' ⟨rfl, ⟨nd, rfl⟩⟩; refine ⟨_, rfl, ?_⟩))
   go_meet
   case rel => exact ⟨_, (decide (a1 < 1)), m_14, H', ⟨m_111⟩, ⟨m_57⟩, ⟨m_17⟩⟩
  ·replace c6 := Bool.eq_false_iff.mpr c6
   subst c6
   have H1 : (unit_Check.j0 k true a0_0 a0_1 l0_2 a0_3 a0_4 a0_5 a0_6 a0_7 a0_8) = some r := by rw [if_neg (show ¬ (false = true) by decide)] at H; exact H
   clear H
   have H := H1
   clear H1
   have H' := Aside0.mk H
   clear H
   obtain ⟨hcz8_0, hcz8_1, hcz8_2, hcz8_3, hcz8_4, hcz8_5, hcz8_6, hcz8_7, hcz8_8, hfz8_0, hfz8_1, hfz8_2, hfz8_3, hfz8_4, hfz8_5, hfz8_6, hfz8_7, hfz8_8⟩ := cf9_ BK110
   go_wp2_with (first | ((with_reducible refine gate_callee (f := 45) rfl ?_); refine goesL_ (some 13) rfl rfl Try.func45 m_19 rfl #[.int .i64 a0_0, .int .i64 0, .int .i64 (wrap64 (a1 - 1))] rfl m_2 ?_; (with_reducible refine (unit_within_int.calls a0_0 0 (wrap64 (a1 - 1)) false _ A5.out).mono ?_); rintro e w' ⟨rfl, ⟨nd, rfl⟩⟩; refine ⟨_, rfl, ?_⟩))
   go_meet
   case rel => exact ⟨_, (true), m_14, H', ⟨m_111⟩, ⟨m_57⟩, ⟨m_17⟩⟩
 case rest =>
  clear HC3
  (try clear p2); (try clear c3); (try clear c4); (try clear c6); (try clear p6); (try clear hcz7_0); (try clear hcz7_1); (try clear hcz7_2); (try clear hcz7_3); (try clear hcz7_4); (try clear hcz7_5); (try clear hcz7_6); (try clear hcz7_7); (try clear hcz7_8); (try clear hcz8_0); (try clear hcz8_1); (try clear hcz8_2); (try clear hcz8_3); (try clear hcz8_4); (try clear hcz8_5); (try clear hcz8_6); (try clear hcz8_7); (try clear hcz8_8); (try clear hfz7_0); (try clear hfz7_1); (try clear hfz7_2); (try clear hfz7_3); (try clear hfz7_4); (try clear hfz7_5); (try clear hfz7_6); (try clear hfz7_7); (try clear hfz7_8); (try clear hfz8_0); (try clear hfz8_1); (try clear hfz8_2); (try clear hfz8_3); (try clear hfz8_4); (try clear hfz8_5); (try clear hfz8_6); (try clear hfz8_7); (try clear hfz8_8)
  obtain ⟨kq, x18_2, rfl, HA, HJ2, BK110, HB⟩ := hcut
  cases kq with
  | zero => exact absurd HA.out (by simp [unit_Check.j0])
  | succ kj2 =>
   have H := HA.out
   clear HA
   simp only [unit_Check.j0] at H
   by_cases c9 : x18_2 = true
   ·subst c9
    have H1 : (some 1) = some r := by rw [if_pos rfl] at H; exact H
    clear H
    have H := H1
    clear H1
    obtain rfl := Option.some.inj H
    go_wp2
    go_ret
    exact ⟨m_3, m_17⟩
   ·replace c9 := Bool.eq_false_iff.mpr c9
    subst c9
    have H1 : ((step_CheckOffer.f l0_2).bind fun t112 => (if t112 = 0 then ((unit_Max.f kj2 a0_0 a0_1 l0_2 a0_3 a0_4 a0_5 a0_6 a0_7 a0_8).bind fun t113 => ((unit_within_int64.f a0_1 0 t113).bind fun t114 => (if t114 = true then ((unit_within_int64.f a0_7 0 1000000).bind fun t115 => (unit_Check.j1 kj2 t115 a0_0 a0_1 l0_2 a0_3 a0_4 a0_5 a0_6 a0_7 a0_8)) else (unit_Check.j1 kj2 false a0_0 a0_1 l0_2 a0_3 a0_4 a0_5 a0_6 a0_7 a0_8)))) else (some t112))) = some r := by rw [if_neg (show ¬ (false = true) by decide)] at H; exact H
    clear H
    have H := H1
    clear H1
    replace H := Option.bind_eq_some_iff.mp H
    obtain ⟨t112, A100, H⟩ := H
    replace H : (if t112 = 0 then ((unit_Max.f kj2 a0_0 a0_1 l0_2 a0_3 a0_4 a0_5 a0_6 a0_7 a0_8).bind fun t113 => ((unit_within_int64.f a0_1 0 t113).bind fun t114 => (if t114 = true then ((unit_within_int64.f a0_7 0 1000000).bind fun t115 => (unit_Check.j1 kj2 t115 a0_0 a0_1 l0_2 a0_3 a0_4 a0_5 a0_6 a0_7 a0_8)) else (unit_Check.j1 kj2 false a0_0 a0_1 l0_2 a0_3 a0_4 a0_5 a0_6 a0_7 a0_8)))) else (some t112)) = some r := H
    have A10 := Aside0.mk A100
    clear A100
    by_cases c11 : t112 = 0
    ·rw [if_pos c11] at H
     have c11b1 : (t112 != 0) = false := bne_eq_false_iff_eq.mpr c11
     clear c11
     have HC12 := Aside0.mk H
     clear H
     obtain ⟨hcz13_0, hcz13_1, hcz13_2, hcz13_3, hcz13_4, hcz13_5, hcz13_6, hcz13_7, hcz13_8, hfz13_0, hfz13_1, hfz13_2, hfz13_3, hfz13_4, hfz13_5, hfz13_6, hfz13_7, hfz13_8⟩ := cf9_ BK110
     go_upto_region 6 with (first | ((with_reducible refine gate_callee (f := 57) rfl ?_); refine goesL_ (some 21) rfl rfl Try.func57 m_19 rfl #[.slice A0_2 l0_2.length c0_2] rfl m_2 ?_; (with_reducible refine (step_CheckOffer.calls _ _ l0_2 t112 _ ?side1 ?side2 A10.out).mono ?_); (case side1 => exact cA_ (Kd.C_below HR0_2.out HB.out)); (case side2 => exact HC0_2.out); rintro e w14 ⟨rfl, hb⟩; refine ⟨_, rfl, ?_⟩; replace BK110 := bB_ BK110 hb; replace HB := Aside0.mk (below_step m_17 hb); clear hb))
     (try simp only [Act.put, List.setIfInBounds_toArray, List.set_cons_zero, List.set_cons_succ])
     go_cut [6] (fun v6 wc => ∃ (kq : Nat) (x6_11 : Bool), v6 = .bool x6_11 ∧ Aside0 (unit_Check.j1 kq x6_11 a0_0 a0_1 l0_2 a0_3 a0_4 a0_5 a0_6 a0_7 a0_8 = some r) ∧ Aside0 (kq ≤ kj2) ∧ Aside0 (wc.heap[gb110]? = some (.cells #[.int .i64 a0_0, .int .i64 a0_1, (.slice A0_2 l0_2.length c0_2), .int .i64 a0_3, .int .i64 a0_4, .int .i64 a0_5, .int .i64 a0_6, .int .i64 a0_7, .int .i64 a0_8] 24 (0, 0))) ∧ Aside0 (Below w.heap.size w wc))
     case first =>
      have H := HC12.out
      clear HC12
      replace H := Option.bind_eq_some_iff.mp H
      obtain ⟨t113, A150, H⟩ := H
      replace H : ((unit_within_int64.f a0_1 0 t113).bind fun t114 => (if t114 = true then ((unit_within_int64.f a0_7 0 1000000).bind fun t115 => (unit_Check.j1 kj2 t115 a0_0 a0_1 l0_2 a0_3 a0_4 a0_5 a0_6 a0_7 a0_8)) else (unit_Check.j1 kj2 false a0_0 a0_1 l0_2 a0_3 a0_4 a0_5 a0_6 a0_7 a0_8))) = some r := H
      have A15 := Aside0.mk A150
      clear A150
      replace H := Option.bind_eq_some_iff.mp H
      obtain ⟨t114, A160, H⟩ := H
      replace H : (if t114 = true then ((unit_within_int64.f a0_7 0 1000000).bind fun t115 => (unit_Check.j1 kj2 t115 a0_0 a0_1 l0_2 a0_3 a0_4 a0_5 a0_6 a0_7 a0_8)) else (unit_Check.j1 kj2 false a0_0 a0_1 l0_2 a0_3 a0_4 a0_5 a0_6 a0_7 a0_8)) = some r := H
      have A16 := Aside0.mk A160
      clear A160
      try go_wp2
      replace BK110 := bD_ BK110
      replace HB := Aside0.mk (below_drew1 HB.out)
      refine start_ (n := 11) (S := fun w' => w'.cell? ⟨gb110, 0, none⟩ = some (.int .i64 a0_0) ∧ w'.cell? ⟨gb110, 1, none⟩ = some (.int .i64 a0_1) ∧ w'.cell? ⟨gb110, 2, none⟩ = some (.slice A0_2 l0_2.length c0_2) ∧ w'.cell? ⟨gb110, 3, none⟩ = some (.int .i64 a0_3) ∧ w'.cell? ⟨gb110, 4, none⟩ = some (.int .i64 a0_4) ∧ w'.cell? ⟨gb110, 5, none⟩ = some (.int .i64 a0_5) ∧ w'.cell? ⟨gb110, 6, none⟩ = some (.int .i64 a0_6) ∧ w'.cell? ⟨gb110, 7, none⟩ = some (.int .i64 a0_7) ∧ w'.cell? ⟨gb110, 8, none⟩ = some (.int .i64 a0_8)) (ds := []) #[false, false, false, false, false, false, false, false, false, false, false] m_19 rfl rfl ⟨(blk_cell BK110.out 0).trans rfl, (blk_cell BK110.out 1).trans rfl, (blk_cell BK110.out 2).trans rfl, (blk_cell BK110.out 3).trans rfl, (blk_cell BK110.out 4).trans rfl, (blk_cell BK110.out 5).trans rfl, (blk_cell BK110.out 6).trans rfl, (blk_cell BK110.out 7).trans rfl, (blk_cell BK110.out 8).trans rfl⟩ (fun hHeld => ?_); refine with_tabW unit_Check.tab6 unit_Check.bits6 (fun HT_ HW_ => ?_)
      generalize w14.drew = w19 at BK110 HB hHeld ⊢
      refine pA_ 0 HT_.out ?_
      refine tA_ 1 HT_.out HW_.out hHeld ?_
      refine tA_ 2 HT_.out HW_.out hHeld ?_
      refine cB_1 3 Try.func37 (args := #[.agg #[.int .i64 a0_0, .int .i64 a0_1, .slice A0_2 l0_2.length c0_2, .int .i64 a0_3, .int .i64 a0_4, .int .i64 a0_5, .int .i64 a0_6, .int .i64 a0_7, .int .i64 a0_8]]) ?_
      with_reducible refine (unit_Max.calls kj2 a0_0 a0_1 _ _ l0_2 a0_3 a0_4 a0_5 a0_6 a0_7 a0_8 t113 _ ?side1 ?side2 A15.out).mono ?_
      (case side1 => exact cA_ (Kd.C_below HR0_2.out HB.out))
      (case side2 => exact HC0_2.out)
      rintro e w20 ⟨rfl, hb⟩
      refine ⟨_, rfl, ?_⟩
      replace BK110 := bB_ BK110 hb
      replace HB := Aside0.mk (below_step m_17 hb)
      (try clear hb); (try clear hb2); (try clear hk); (try clear hi)
      refine nx_ ⟨(blk_cell BK110.out 0).trans rfl, (blk_cell BK110.out 1).trans rfl, (blk_cell BK110.out 2).trans rfl, (blk_cell BK110.out 3).trans rfl, (blk_cell BK110.out 4).trans rfl, (blk_cell BK110.out 5).trans rfl, (blk_cell BK110.out 6).trans rfl, (blk_cell BK110.out 7).trans rfl, (blk_cell BK110.out 8).trans rfl⟩ (fun hHeld => ?_)
      refine one_ (i := 4) (N := some 29) #[true, true, true, true, true, false, false, false, false, false, false] rfl rfl (one_of HT_.out m_19) (by decide) (fun K hK => ?_)
      refine goes_ Try.func58 m_19 rfl #[.int .i64 a0_1, .int .i64 0, .int .i64 t113] (by rfl) rfl rfl m_2 ?_
      by_cases c17 : t114 = true
      ·subst c17
       have H1 : ((unit_within_int64.f a0_7 0 1000000).bind fun t115 => (unit_Check.j1 kj2 t115 a0_0 a0_1 l0_2 a0_3 a0_4 a0_5 a0_6 a0_7 a0_8)) = some r := by rw [if_pos rfl] at H; exact H
       clear H
       have H := H1
       clear H1
       replace H := Option.bind_eq_some_iff.mp H
       obtain ⟨t115, A180, H⟩ := H
       replace H : (unit_Check.j1 kj2 t115 a0_0 a0_1 l0_2 a0_3 a0_4 a0_5 a0_6 a0_7 a0_8) = some r := H
       have A18 := Aside0.mk A180
       clear A180
       have H' := Aside0.mk H
       clear H
       with_reducible refine (unit_within_int64.calls a0_1 0 t113 true _ A16.out).mono ?_
       rintro e w' ⟨rfl, ⟨nd, rfl⟩⟩
       refine ⟨_, rfl, ?_⟩
       refine hK.out _ _ ⟨(blk_cell BK110.out 0).trans rfl, (blk_cell BK110.out 1).trans rfl, (blk_cell BK110.out 2).trans rfl, (blk_cell BK110.out 3).trans rfl, (blk_cell BK110.out 4).trans rfl, (blk_cell BK110.out 5).trans rfl, (blk_cell BK110.out 6).trans rfl, (blk_cell BK110.out 7).trans rfl, (blk_cell BK110.out 8).trans rfl⟩ (fun hHeld => ?_)
       clear hK K
       refine norm_ (a' := ?_) ?_ ?_
       rotate_left
       ·show Act.put _ (some 29) _ = _
        simp only [Act.put, List.setIfInBounds_toArray, List.set_cons_zero, List.set_cons_succ, i64_w, i32_w]
        rfl
       refine pA_ 5 HT_.out ?_
       refine pA_ 6 HT_.out ?_
       refine tA_ 7 HT_.out HW_.out hHeld ?_
       refine cB_1 8 Try.func58 (args := #[.int .i64 a0_7, .int .i64 0, .int .i64 1000000]) ?_
       with_reducible refine (unit_within_int64.calls a0_7 0 1000000 t115 _ A18.out).mono ?_
       rintro e w' ⟨rfl, ⟨nd, rfl⟩⟩
       refine ⟨_, rfl, ?_⟩
       refine nx_ ⟨(blk_cell BK110.out 0).trans rfl, (blk_cell BK110.out 1).trans rfl, (blk_cell BK110.out 2).trans rfl, (blk_cell BK110.out 3).trans rfl, (blk_cell BK110.out 4).trans rfl, (blk_cell BK110.out 5).trans rfl, (blk_cell BK110.out 6).trans rfl, (blk_cell BK110.out 7).trans rfl, (blk_cell BK110.out 8).trans rfl⟩ (fun hHeld => ?_)
       refine pA_ 9 HT_.out ?_
       refine pA_ 10 HT_.out ?_
       refine done_ (done_of HT_.out m_19) ?_
       try go_wp2
       go_meet
       case rel => exact ⟨_, (t115), m_14, H', ⟨(by have := HJ2.out; first | omega | exact Nat.le_refl _)⟩, ⟨m_57⟩, ⟨m_17⟩⟩
      ·replace c17 := Bool.eq_false_iff.mpr c17
       subst c17
       have H1 : (unit_Check.j1 kj2 false a0_0 a0_1 l0_2 a0_3 a0_4 a0_5 a0_6 a0_7 a0_8) = some r := by rw [if_neg (show ¬ (false = true) by decide)] at H; exact H
       clear H
       have H := H1
       clear H1
       have H' := Aside0.mk H
       clear H
       with_reducible refine (unit_within_int64.calls a0_1 0 t113 false _ A16.out).mono ?_
       rintro e w' ⟨rfl, ⟨nd, rfl⟩⟩
       refine ⟨_, rfl, ?_⟩
       refine hK.out _ _ ⟨(blk_cell BK110.out 0).trans rfl, (blk_cell BK110.out 1).trans rfl, (blk_cell BK110.out 2).trans rfl, (blk_cell BK110.out 3).trans rfl, (blk_cell BK110.out 4).trans rfl, (blk_cell BK110.out 5).trans rfl, (blk_cell BK110.out 6).trans rfl, (blk_cell BK110.out 7).trans rfl, (blk_cell BK110.out 8).trans rfl⟩ (fun hHeld => ?_)
       clear hK K
       refine norm_ (a' := ?_) ?_ ?_
       rotate_left
       ·show Act.put _ (some 29) _ = _
        simp only [Act.put, List.setIfInBounds_toArray, List.set_cons_zero, List.set_cons_succ, i64_w, i32_w]
        rfl
       refine pA_ 5 HT_.out ?_
       refine pure_ (i := 6) (N := some 31) (v := undef) (a' := ?_) #[true, true, true, true, true, true, true, false, false, false, false] rfl rfl (any_of HT_.out m_19) (fun _ _ _ h => h) (Or.inr ⟨(by rfl), rfl⟩) ?_ ?_
       rotate_left
       ·simp only [Act.put, List.setIfInBounds_toArray, List.set_cons_zero, List.set_cons_succ, i64_w, i32_w]
        rfl
       refine pure_ (i := 7) (N := some 32) (v := undef) (a' := ?_) #[true, true, true, true, true, true, true, true, false, false, false] rfl rfl (any_of HT_.out m_19) (fun _ _ _ h => h) (Or.inr ⟨(by rfl), rfl⟩) ?_ ?_
       rotate_left
       ·simp only [Act.put, List.setIfInBounds_toArray, List.set_cons_zero, List.set_cons_succ, i64_w, i32_w]
        rfl
       refine pure_ (i := 8) (N := some 33) (v := undef) (a' := ?_) #[true, true, true, true, true, true, true, true, true, false, false] rfl rfl (any_of HT_.out m_19) (fun _ _ _ h => h) (Or.inr ⟨(by rfl), rfl⟩) ?_ ?_
       rotate_left
       ·simp only [Act.put, List.setIfInBounds_toArray, List.set_cons_zero, List.set_cons_succ, i64_w, i32_w]
        rfl
       refine pA_ 9 HT_.out ?_
       refine pA_ 10 HT_.out ?_
       refine done_ (done_of HT_.out m_19) ?_
       try go_wp2
       go_meet
       case rel => exact ⟨_, (false), m_14, H', ⟨(by have := HJ2.out; first | omega | exact Nat.le_refl _)⟩, ⟨m_57⟩, ⟨m_17⟩⟩
     case rest =>
      clear HC12
      (try clear c1); (try clear p2); (try clear c3); (try clear c4); (try clear c5); (try clear c6); (try clear p6); (try clear c9); (try clear c11); (try skip); (try clear c11b1); (try clear c17); (try clear hcz13_0); (try clear hcz13_1); (try clear hcz13_2); (try clear hcz13_3); (try clear hcz13_4); (try clear hcz13_5); (try clear hcz13_6); (try clear hcz13_7); (try clear hcz13_8); (try clear hcz7_0); (try clear hcz7_1); (try clear hcz7_2); (try clear hcz7_3); (try clear hcz7_4); (try clear hcz7_5); (try clear hcz7_6); (try clear hcz7_7); (try clear hcz7_8); (try clear hcz8_0); (try clear hcz8_1); (try clear hcz8_2); (try clear hcz8_3); (try clear hcz8_4); (try clear hcz8_5); (try clear hcz8_6); (try clear hcz8_7); (try clear hcz8_8); (try clear hfz13_0); (try clear hfz13_1); (try clear hfz13_2); (try clear hfz13_3); (try clear hfz13_4); (try clear hfz13_5); (try clear hfz13_6); (try clear hfz13_7); (try clear hfz13_8); (try clear hfz7_0); (try clear hfz7_1); (try clear hfz7_2); (try clear hfz7_3); (try clear hfz7_4); (try clear hfz7_5); (try clear hfz7_6); (try clear hfz7_7); (try clear hfz7_8); (try clear hfz8_0); (try clear hfz8_1); (try clear hfz8_2); (try clear hfz8_3); (try clear hfz8_4); (try clear hfz8_5); (try clear hfz8_6); (try clear hfz8_7); (try clear hfz8_8); (try clear p2); (try clear p6)
      obtain ⟨kq, x6_11, rfl, HA, HJ11, BK110, HB⟩ := hcut
      cases kq with
      | zero => exact absurd HA.out (by simp [unit_Check.j1])
      | succ kj11 =>
       have H := HA.out
       clear HA
       simp only [unit_Check.j1] at H
       have HC23 := Aside0.mk H
       clear H
       go_upto_region 7 with (fail)
       go_cut [7] (fun v7 wc => ∃ (kq : Nat) (x7_22 : Bool), v7 = .bool x7_22 ∧ Aside0 (unit_Check.j2 kq x6_11 x7_22 a0_0 a0_1 l0_2 a0_3 a0_4 a0_5 a0_6 a0_7 a0_8 = some r) ∧ Aside0 (kq ≤ kj11) ∧ Aside0 (wc.heap[gb110]? = some (.cells #[.int .i64 a0_0, .int .i64 a0_1, (.slice A0_2 l0_2.length c0_2), .int .i64 a0_3, .int .i64 a0_4, .int .i64 a0_5, .int .i64 a0_6, .int .i64 a0_7, .int .i64 a0_8] 24 (0, 0))) ∧ Aside0 (Below w.heap.size w wc))
       case first =>
        have H := HC23.out
        clear HC23
        replace H := Option.bind_eq_some_iff.mp H
        obtain ⟨t116, A240, H⟩ := H
        replace H : (if t116 = true then ((unit_within_int.f a0_4 1 6).bind fun t117 => (if t117 = true then ((unit_within_int.f a0_8 (-6) 6).bind fun t118 => (if t118 = true then (unit_Check.j2 kj11 x6_11 (a0_8 != 0) a0_0 a0_1 l0_2 a0_3 a0_4 a0_5 a0_6 a0_7 a0_8) else (unit_Check.j2 kj11 x6_11 false a0_0 a0_1 l0_2 a0_3 a0_4 a0_5 a0_6 a0_7 a0_8))) else (unit_Check.j2 kj11 x6_11 false a0_0 a0_1 l0_2 a0_3 a0_4 a0_5 a0_6 a0_7 a0_8))) else (unit_Check.j2 kj11 x6_11 false a0_0 a0_1 l0_2 a0_3 a0_4 a0_5 a0_6 a0_7 a0_8)) = some r := H
        have A24 := Aside0.mk A240
        clear A240
        by_cases c25 : t116 = true
        ·subst c25
         have H1 : ((unit_within_int.f a0_4 1 6).bind fun t117 => (if t117 = true then ((unit_within_int.f a0_8 (-6) 6).bind fun t118 => (if t118 = true then (unit_Check.j2 kj11 x6_11 (a0_8 != 0) a0_0 a0_1 l0_2 a0_3 a0_4 a0_5 a0_6 a0_7 a0_8) else (unit_Check.j2 kj11 x6_11 false a0_0 a0_1 l0_2 a0_3 a0_4 a0_5 a0_6 a0_7 a0_8))) else (unit_Check.j2 kj11 x6_11 false a0_0 a0_1 l0_2 a0_3 a0_4 a0_5 a0_6 a0_7 a0_8))) = some r := by rw [if_pos rfl] at H; exact H
         clear H
         have H := H1
         clear H1
         replace H := Option.bind_eq_some_iff.mp H
         obtain ⟨t117, A260, H⟩ := H
         replace H : (if t117 = true then ((unit_within_int.f a0_8 (-6) 6).bind fun t118 => (if t118 = true then (unit_Check.j2 kj11 x6_11 (a0_8 != 0) a0_0 a0_1 l0_2 a0_3 a0_4 a0_5 a0_6 a0_7 a0_8) else (unit_Check.j2 kj11 x6_11 false a0_0 a0_1 l0_2 a0_3 a0_4 a0_5 a0_6 a0_7 a0_8))) else (unit_Check.j2 kj11 x6_11 false a0_0 a0_1 l0_2 a0_3 a0_4 a0_5 a0_6 a0_7 a0_8)) = some r := H
         have A26 := Aside0.mk A260
         clear A260
         by_cases c27 : t117 = true
         ·subst c27
          have H1 : ((unit_within_int.f a0_8 (-6) 6).bind fun t118 => (if t118 = true then (unit_Check.j2 kj11 x6_11 (a0_8 != 0) a0_0 a0_1 l0_2 a0_3 a0_4 a0_5 a0_6 a0_7 a0_8) else (unit_Check.j2 kj11 x6_11 false a0_0 a0_1 l0_2 a0_3 a0_4 a0_5 a0_6 a0_7 a0_8))) = some r := by rw [if_pos rfl] at H; exact H
          clear H
          have H := H1
          clear H1
          replace H := Option.bind_eq_some_iff.mp H
          obtain ⟨t118, A280, H⟩ := H
          replace H : (if t118 = true then (unit_Check.j2 kj11 x6_11 (a0_8 != 0) a0_0 a0_1 l0_2 a0_3 a0_4 a0_5 a0_6 a0_7 a0_8) else (unit_Check.j2 kj11 x6_11 false a0_0 a0_1 l0_2 a0_3 a0_4 a0_5 a0_6 a0_7 a0_8)) = some r := H
          have A28 := Aside0.mk A280
          clear A280
          by_cases c29 : t118 = true
          ·subst c29
           have H1 : (unit_Check.j2 kj11 x6_11 (a0_8 != 0) a0_0 a0_1 l0_2 a0_3 a0_4 a0_5 a0_6 a0_7 a0_8) = some r := by rw [if_pos rfl] at H; exact H
           clear H
           have H := H1
           clear H1
           have H' := Aside0.mk H
           clear H
           obtain ⟨hcz30_0, hcz30_1, hcz30_2, hcz30_3, hcz30_4, hcz30_5, hcz30_6, hcz30_7, hcz30_8, hfz30_0, hfz30_1, hfz30_2, hfz30_3, hfz30_4, hfz30_5, hfz30_6, hfz30_7, hfz30_8⟩ := cf9_ BK110
           go_wp2_with (first | ((with_reducible refine gate_callee (f := 45) rfl ?_); refine goesL_ (some 37) rfl rfl Try.func45 m_19 rfl #[.int .i64 a0_3, .int .i64 1, .int .i64 6] rfl m_2 ?_; (with_reducible refine (unit_within_int.calls a0_3 1 6 true _ A24.out).mono ?_); rintro e w' ⟨rfl, ⟨nd, rfl⟩⟩; refine ⟨_, rfl, ?_⟩) | (go_at_call 45; (with_reducible refine (unit_within_int.calls a0_4 1 6 true _ A26.out).mono ?_); rintro e w' ⟨rfl, ⟨nd, rfl⟩⟩) | (go_at_call 45; (with_reducible refine (unit_within_int.calls a0_8 (-6) 6 true _ A28.out).mono ?_); rintro e w' ⟨rfl, ⟨nd, rfl⟩⟩))
           go_meet
           case rel => exact ⟨_, ((a0_8 != 0)), m_14, H', ⟨m_119⟩, ⟨m_57⟩, ⟨m_17⟩⟩
          ·replace c29 := Bool.eq_false_iff.mpr c29
           subst c29
           have H1 : (unit_Check.j2 kj11 x6_11 false a0_0 a0_1 l0_2 a0_3 a0_4 a0_5 a0_6 a0_7 a0_8) = some r := by rw [if_neg (show ¬ (false = true) by decide)] at H; exact H
           clear H
           have H := H1
           clear H1
           have H' := Aside0.mk H
           clear H
           obtain ⟨hcz31_0, hcz31_1, hcz31_2, hcz31_3, hcz31_4, hcz31_5, hcz31_6, hcz31_7, hcz31_8, hfz31_0, hfz31_1, hfz31_2, hfz31_3, hfz31_4, hfz31_5, hfz31_6, hfz31_7, hfz31_8⟩ := cf9_ BK110
           go_wp2_with (first | ((with_reducible refine gate_callee (f := 45) rfl ?_); refine goesL_ (some 37) rfl rfl Try.func45 m_19 rfl #[.int .i64 a0_3, .int .i64 1, .int .i64 6] rfl m_2 ?_; (with_reducible refine (unit_within_int.calls a0_3 1 6 true _ A24.out).mono ?_); rintro e w' ⟨rfl, ⟨nd, rfl⟩⟩; refine ⟨_, rfl, ?_⟩) | (go_at_call 45; (with_reducible refine (unit_within_int.calls a0_4 1 6 true _ A26.out).mono ?_); rintro e w' ⟨rfl, ⟨nd, rfl⟩⟩) | (go_at_call 45; (with_reducible refine (unit_within_int.calls a0_8 (-6) 6 false _ A28.out).mono ?_); rintro e w' ⟨rfl, ⟨nd, rfl⟩⟩))
           go_meet
           case rel => exact ⟨_, (false), m_14, H', ⟨m_119⟩, ⟨m_57⟩, ⟨m_17⟩⟩
         ·replace c27 := Bool.eq_false_iff.mpr c27
          subst c27
          have H1 : (unit_Check.j2 kj11 x6_11 false a0_0 a0_1 l0_2 a0_3 a0_4 a0_5 a0_6 a0_7 a0_8) = some r := by rw [if_neg (show ¬ (false = true) by decide)] at H; exact H
          clear H
          have H := H1
          clear H1
          have H' := Aside0.mk H
          clear H
          obtain ⟨hcz32_0, hcz32_1, hcz32_2, hcz32_3, hcz32_4, hcz32_5, hcz32_6, hcz32_7, hcz32_8, hfz32_0, hfz32_1, hfz32_2, hfz32_3, hfz32_4, hfz32_5, hfz32_6, hfz32_7, hfz32_8⟩ := cf9_ BK110
          go_wp2_with (first | ((with_reducible refine gate_callee (f := 45) rfl ?_); refine goesL_ (some 37) rfl rfl Try.func45 m_19 rfl #[.int .i64 a0_3, .int .i64 1, .int .i64 6] rfl m_2 ?_; (with_reducible refine (unit_within_int.calls a0_3 1 6 true _ A24.out).mono ?_); rintro e w' ⟨rfl, ⟨nd, rfl⟩⟩; refine ⟨_, rfl, ?_⟩) | (go_at_call 45; (with_reducible refine (unit_within_int.calls a0_4 1 6 false _ A26.out).mono ?_); rintro e w' ⟨rfl, ⟨nd, rfl⟩⟩))
          go_meet
          case rel => exact ⟨_, (false), m_14, H', ⟨m_119⟩, ⟨m_57⟩, ⟨m_17⟩⟩
        ·replace c25 := Bool.eq_false_iff.mpr c25
         subst c25
         have H1 : (unit_Check.j2 kj11 x6_11 false a0_0 a0_1 l0_2 a0_3 a0_4 a0_5 a0_6 a0_7 a0_8) = some r := by rw [if_neg (show ¬ (false = true) by decide)] at H; exact H
         clear H
         have H := H1
         clear H1
         have H' := Aside0.mk H
         clear H
         obtain ⟨hcz33_0, hcz33_1, hcz33_2, hcz33_3, hcz33_4, hcz33_5, hcz33_6, hcz33_7, hcz33_8, hfz33_0, hfz33_1, hfz33_2, hfz33_3, hfz33_4, hfz33_5, hfz33_6, hfz33_7, hfz33_8⟩ := cf9_ BK110
         go_wp2_with (first | ((with_reducible refine gate_callee (f := 45) rfl ?_); refine goesL_ (some 37) rfl rfl Try.func45 m_19 rfl #[.int .i64 a0_3, .int .i64 1, .int .i64 6] rfl m_2 ?_; (with_reducible refine (unit_within_int.calls a0_3 1 6 false _ A24.out).mono ?_); rintro e w' ⟨rfl, ⟨nd, rfl⟩⟩; refine ⟨_, rfl, ?_⟩))
         go_meet
         case rel => exact ⟨_, (false), m_14, H', ⟨m_119⟩, ⟨m_57⟩, ⟨m_17⟩⟩
       case rest =>
        clear HC23
        (try clear c1); (try clear c2); (try clear p2); (try clear c3); (try clear c4); (try clear c5); (try clear c6); (try clear p6); (try clear c9); (try clear c11); (try skip); (try clear c11b1); (try clear c17); (try clear c25); (try clear c27); (try clear c29); (try clear hcz13_0); (try clear hcz13_1); (try clear hcz13_2); (try clear hcz13_3); (try clear hcz13_4); (try clear hcz13_5); (try clear hcz13_6); (try clear hcz13_7); (try clear hcz13_8); (try clear hcz30_0); (try clear hcz30_1); (try clear hcz30_2); (try clear hcz30_3); (try clear hcz30_4); (try clear hcz30_5); (try clear hcz30_6); (try clear hcz30_7); (try clear hcz30_8); (try clear hcz31_0); (try clear hcz31_1); (try clear hcz31_2); (try clear hcz31_3); (try clear hcz31_4); (try clear hcz31_5); (try clear hcz31_6); (try clear hcz31_7); (try clear hcz31_8); (try clear hcz32_0); (try clear hcz32_1); (try clear hcz32_2); (try clear hcz32_3); (try clear hcz32_4); (try clear hcz32_5); (try clear hcz32_6); (try clear hcz32_7); (try clear hcz32_8); (try clear hcz33_0); (try clear hcz33_1); (try clear hcz33_2); (try clear hcz33_3); (try clear hcz33_4); (try clear hcz33_5); (try clear hcz33_6); (try clear hcz33_7); (try clear hcz33_8); (try clear hcz7_0); (try clear hcz7_1); (try clear hcz7_2); (try clear hcz7_3); (try clear hcz7_4); (try clear hcz7_5); (try clear hcz7_6); (try clear hcz7_7); (try clear hcz7_8); (try clear hcz8_0); (try clear hcz8_1); (try clear hcz8_2); (try clear hcz8_3); (try clear hcz8_4); (try clear hcz8_5); (try clear hcz8_6); (try clear hcz8_7); (try clear hcz8_8); (try clear hfz13_0); (try clear hfz13_1); (try clear hfz13_2); (try clear hfz13_3); (try clear hfz13_4); (try clear hfz13_5); (try clear hfz13_6); (try clear hfz13_7); (try clear hfz13_8); (try clear hfz30_0); (try clear hfz30_1); (try clear hfz30_2); (try clear hfz30_3); (try clear hfz30_4); (try clear hfz30_5); (try clear hfz30_6); (try clear hfz30_7); (try clear hfz30_8); (try clear hfz31_0); (try clear hfz31_1); (try clear hfz31_2); (try clear hfz31_3); (try clear hfz31_4); (try clear hfz31_5); (try clear hfz31_6); (try clear hfz31_7); (try clear hfz31_8); (try clear hfz32_0); (try clear hfz32_1); (try clear hfz32_2); (try clear hfz32_3); (try clear hfz32_4); (try clear hfz32_5); (try clear hfz32_6); (try clear hfz32_7); (try clear hfz32_8); (try clear hfz33_0); (try clear hfz33_1); (try clear hfz33_2); (try clear hfz33_3); (try clear hfz33_4); (try clear hfz33_5); (try clear hfz33_6); (try clear hfz33_7); (try clear hfz33_8); (try clear hfz7_0); (try clear hfz7_1); (try clear hfz7_2); (try clear hfz7_3); (try clear hfz7_4); (try clear hfz7_5); (try clear hfz7_6); (try clear hfz7_7); (try clear hfz7_8); (try clear hfz8_0); (try clear hfz8_1); (try clear hfz8_2); (try clear hfz8_3); (try clear hfz8_4); (try clear hfz8_5); (try clear hfz8_6); (try clear hfz8_7); (try clear hfz8_8); (try clear p2); (try clear p6)
        obtain ⟨kq, x7_22, rfl, HA, HJ22, BK110, HB⟩ := hcut
        cases kq with
        | zero => exact absurd HA.out (by simp [unit_Check.j2])
        | succ kj22 =>
         have H := HA.out
         clear HA
         simp only [unit_Check.j2] at H
         replace H := Option.bind_eq_some_iff.mp H
         obtain ⟨t119, A340, H⟩ := H
         replace H : (if t119 = true then ((unit_within_int64.f a0_6 0 1000000000).bind fun t120 => (if x6_11 = true then (if x7_22 = true then (if t120 = true then (some 0) else (some 1)) else (some 1)) else (some 1))) else (if x6_11 = true then (if x7_22 = true then (some 1) else (some 1)) else (some 1))) = some r := H
         have A34 := Aside0.mk A340
         clear A340
         by_cases c35 : t119 = true
         ·subst c35
          have H1 : ((unit_within_int64.f a0_6 0 1000000000).bind fun t120 => (if x6_11 = true then (if x7_22 = true then (if t120 = true then (some 0) else (some 1)) else (some 1)) else (some 1))) = some r := by rw [if_pos rfl] at H; exact H
          clear H
          have H := H1
          clear H1
          replace H := Option.bind_eq_some_iff.mp H
          obtain ⟨t120, A360, H⟩ := H
          replace H : (if x6_11 = true then (if x7_22 = true then (if t120 = true then (some 0) else (some 1)) else (some 1)) else (some 1)) = some r := H
          have A36 := Aside0.mk A360
          clear A360
          by_cases c37 : x6_11 = true
          ·subst c37
           have H1 : (if x7_22 = true then (if t120 = true then (some 0) else (some 1)) else (some 1)) = some r := by rw [if_pos rfl] at H; exact H
           clear H
           have H := H1
           clear H1
           by_cases c38 : x7_22 = true
           ·subst c38
            have H1 : (if t120 = true then (some 0) else (some 1)) = some r := by rw [if_pos rfl] at H; exact H
            clear H
            have H := H1
            clear H1
            by_cases c39 : t120 = true
            ·subst c39
             have H1 : (some 0) = some r := by rw [if_pos rfl] at H; exact H
             clear H
             have H := H1
             clear H1
             obtain rfl := Option.some.inj H
             obtain ⟨hcz40_0, hcz40_1, hcz40_2, hcz40_3, hcz40_4, hcz40_5, hcz40_6, hcz40_7, hcz40_8, hfz40_0, hfz40_1, hfz40_2, hfz40_3, hfz40_4, hfz40_5, hfz40_6, hfz40_7, hfz40_8⟩ := cf9_ BK110
             go_wp2_with (first | ((with_reducible refine gate_callee (f := 58) rfl ?_); refine goesL_ (some 55) rfl rfl Try.func58 m_19 rfl #[.int .i64 a0_5, .int .i64 0, .int .i64 1000000000] rfl m_2 ?_; (with_reducible refine (unit_within_int64.calls a0_5 0 1000000000 true _ A34.out).mono ?_); rintro e w' ⟨rfl, ⟨nd, rfl⟩⟩; refine ⟨_, rfl, ?_⟩) | (go_at_call 58; (with_reducible refine (unit_within_int64.calls a0_6 0 1000000000 true _ A36.out).mono ?_); rintro e w' ⟨rfl, ⟨nd, rfl⟩⟩))
             go_ret
             exact ⟨m_3, m_17⟩
            ·replace c39 := Bool.eq_false_iff.mpr c39
             subst c39
             have H1 : (some 1) = some r := by rw [if_neg (show ¬ (false = true) by decide)] at H; exact H
             clear H
             have H := H1
             clear H1
             obtain rfl := Option.some.inj H
             obtain ⟨hcz41_0, hcz41_1, hcz41_2, hcz41_3, hcz41_4, hcz41_5, hcz41_6, hcz41_7, hcz41_8, hfz41_0, hfz41_1, hfz41_2, hfz41_3, hfz41_4, hfz41_5, hfz41_6, hfz41_7, hfz41_8⟩ := cf9_ BK110
             go_wp2_with (first | ((with_reducible refine gate_callee (f := 58) rfl ?_); refine goesL_ (some 55) rfl rfl Try.func58 m_19 rfl #[.int .i64 a0_5, .int .i64 0, .int .i64 1000000000] rfl m_2 ?_; (with_reducible refine (unit_within_int64.calls a0_5 0 1000000000 true _ A34.out).mono ?_); rintro e w' ⟨rfl, ⟨nd, rfl⟩⟩; refine ⟨_, rfl, ?_⟩) | (go_at_call 58; (with_reducible refine (unit_within_int64.calls a0_6 0 1000000000 false _ A36.out).mono ?_); rintro e w' ⟨rfl, ⟨nd, rfl⟩⟩))
             go_ret
             exact ⟨m_3, m_17⟩
           ·replace c38 := Bool.eq_false_iff.mpr c38
            subst c38
            have H1 : (some 1) = some r := by rw [if_neg (show ¬ (false = true) by decide)] at H; exact H
            clear H
            have H := H1
            clear H1
            obtain rfl := Option.some.inj H
            obtain ⟨hcz42_0, hcz42_1, hcz42_2, hcz42_3, hcz42_4, hcz42_5, hcz42_6, hcz42_7, hcz42_8, hfz42_0, hfz42_1, hfz42_2, hfz42_3, hfz42_4, hfz42_5, hfz42_6, hfz42_7, hfz42_8⟩ := cf9_ BK110
            go_wp2_with (first | ((with_reducible refine gate_callee (f := 58) rfl ?_); refine goesL_ (some 55) rfl rfl Try.func58 m_19 rfl #[.int .i64 a0_5, .int .i64 0, .int .i64 1000000000] rfl m_2 ?_; (with_reducible refine (unit_within_int64.calls a0_5 0 1000000000 true _ A34.out).mono ?_); rintro e w' ⟨rfl, ⟨nd, rfl⟩⟩; refine ⟨_, rfl, ?_⟩) | (go_at_call 58; (with_reducible refine (unit_within_int64.calls a0_6 0 1000000000 t120 _ A36.out).mono ?_); rintro e w' ⟨rfl, ⟨nd, rfl⟩⟩))
            go_ret
            exact ⟨m_3, m_17⟩
          ·replace c37 := Bool.eq_false_iff.mpr c37
           subst c37
           have H1 : (some 1) = some r := by rw [if_neg (show ¬ (false = true) by decide)] at H; exact H
           clear H
           have H := H1
           clear H1
           obtain rfl := Option.some.inj H
           obtain ⟨hcz43_0, hcz43_1, hcz43_2, hcz43_3, hcz43_4, hcz43_5, hcz43_6, hcz43_7, hcz43_8, hfz43_0, hfz43_1, hfz43_2, hfz43_3, hfz43_4, hfz43_5, hfz43_6, hfz43_7, hfz43_8⟩ := cf9_ BK110
           go_wp2_with (first | ((with_reducible refine gate_callee (f := 58) rfl ?_); refine goesL_ (some 55) rfl rfl Try.func58 m_19 rfl #[.int .i64 a0_5, .int .i64 0, .int .i64 1000000000] rfl m_2 ?_; (with_reducible refine (unit_within_int64.calls a0_5 0 1000000000 true _ A34.out).mono ?_); rintro e w' ⟨rfl, ⟨nd, rfl⟩⟩; refine ⟨_, rfl, ?_⟩) | (go_at_call 58; (with_reducible refine (unit_within_int64.calls a0_6 0 1000000000 t120 _ A36.out).mono ?_); rintro e w' ⟨rfl, ⟨nd, rfl⟩⟩))
           go_ret
           exact ⟨m_3, m_17⟩
         ·replace c35 := Bool.eq_false_iff.mpr c35
          subst c35
          have H1 : (if x6_11 = true then (if x7_22 = true then (some 1) else (some 1)) else (some 1)) = some r := by rw [if_neg (show ¬ (false = true) by decide)] at H; exact H
          clear H
          have H := H1
          clear H1
          by_cases c44 : x6_11 = true
          ·subst c44
           have H1 : (if x7_22 = true then (some 1) else (some 1)) = some r := by rw [if_pos rfl] at H; exact H
           clear H
           have H := H1
           clear H1
           by_cases c45 : x7_22 = true
           ·subst c45
            have H1 : (some 1) = some r := by rw [if_pos rfl] at H; exact H
            clear H
            have H := H1
            clear H1
            obtain rfl := Option.some.inj H
            obtain ⟨hcz46_0, hcz46_1, hcz46_2, hcz46_3, hcz46_4, hcz46_5, hcz46_6, hcz46_7, hcz46_8, hfz46_0, hfz46_1, hfz46_2, hfz46_3, hfz46_4, hfz46_5, hfz46_6, hfz46_7, hfz46_8⟩ := cf9_ BK110
            go_wp2_with (first | ((with_reducible refine gate_callee (f := 58) rfl ?_); refine goesL_ (some 55) rfl rfl Try.func58 m_19 rfl #[.int .i64 a0_5, .int .i64 0, .int .i64 1000000000] rfl m_2 ?_; (with_reducible refine (unit_within_int64.calls a0_5 0 1000000000 false _ A34.out).mono ?_); rintro e w' ⟨rfl, ⟨nd, rfl⟩⟩; refine ⟨_, rfl, ?_⟩))
            go_ret
            exact ⟨m_3, m_17⟩
           ·replace c45 := Bool.eq_false_iff.mpr c45
            subst c45
            have H1 : (some 1) = some r := by rw [if_neg (show ¬ (false = true) by decide)] at H; exact H
            clear H
            have H := H1
            clear H1
            obtain rfl := Option.some.inj H
            obtain ⟨hcz47_0, hcz47_1, hcz47_2, hcz47_3, hcz47_4, hcz47_5, hcz47_6, hcz47_7, hcz47_8, hfz47_0, hfz47_1, hfz47_2, hfz47_3, hfz47_4, hfz47_5, hfz47_6, hfz47_7, hfz47_8⟩ := cf9_ BK110
            go_wp2_with (first | ((with_reducible refine gate_callee (f := 58) rfl ?_); refine goesL_ (some 55) rfl rfl Try.func58 m_19 rfl #[.int .i64 a0_5, .int .i64 0, .int .i64 1000000000] rfl m_2 ?_; (with_reducible refine (unit_within_int64.calls a0_5 0 1000000000 false _ A34.out).mono ?_); rintro e w' ⟨rfl, ⟨nd, rfl⟩⟩; refine ⟨_, rfl, ?_⟩))
            go_ret
            exact ⟨m_3, m_17⟩
          ·replace c44 := Bool.eq_false_iff.mpr c44
           subst c44
           have H1 : (some 1) = some r := by rw [if_neg (show ¬ (false = true) by decide)] at H; exact H
           clear H
           have H := H1
           clear H1
           obtain rfl := Option.some.inj H
           obtain ⟨hcz48_0, hcz48_1, hcz48_2, hcz48_3, hcz48_4, hcz48_5, hcz48_6, hcz48_7, hcz48_8, hfz48_0, hfz48_1, hfz48_2, hfz48_3, hfz48_4, hfz48_5, hfz48_6, hfz48_7, hfz48_8⟩ := cf9_ BK110
           go_wp2_with (first | ((with_reducible refine gate_callee (f := 58) rfl ?_); refine goesL_ (some 55) rfl rfl Try.func58 m_19 rfl #[.int .i64 a0_5, .int .i64 0, .int .i64 1000000000] rfl m_2 ?_; (with_reducible refine (unit_within_int64.calls a0_5 0 1000000000 false _ A34.out).mono ?_); rintro e w' ⟨rfl, ⟨nd, rfl⟩⟩; refine ⟨_, rfl, ?_⟩))
           go_ret
           exact ⟨m_3, m_17⟩
    ·rw [if_neg c11] at H
     have c11b1 : (t112 != 0) = true := bne_iff_ne.mpr c11
     obtain rfl := Option.some.inj H
     obtain ⟨hcz49_0, hcz49_1, hcz49_2, hcz49_3, hcz49_4, hcz49_5, hcz49_6, hcz49_7, hcz49_8, hfz49_0, hfz49_1, hfz49_2, hfz49_3, hfz49_4, hfz49_5, hfz49_6, hfz49_7, hfz49_8⟩ := cf9_ BK110
     go_wp2_with (first | ((with_reducible refine gate_callee (f := 57) rfl ?_); refine goesL_ (some 21) rfl rfl Try.func57 m_19 rfl #[.slice A0_2 l0_2.length c0_2] rfl m_2 ?_; (with_reducible refine (step_CheckOffer.calls _ _ l0_2 t112 _ ?side1 ?side2 A10.out).mono ?_); (case side1 => exact cA_ (Kd.C_below HR0_2.out HB.out)); (case side2 => exact HC0_2.out); rintro e w50 ⟨rfl, hb⟩; refine ⟨_, rfl, ?_⟩; replace HB := Aside0.mk (below_step m_17 hb); clear hb))
     go_ret
     exact ⟨m_3, m_17⟩
end Go.Proofs.Ytelklgdmhnkenaa.U
namespace Go.Proofs.Ytelklgdmhnkenaa.U
attribute [local go_sem] max2_int min2_int max_two min_two max_three min_three max_four min_four
end Go.Proofs.Ytelklgdmhnkenaa.U
namespace Go.Proofs.Ytelklgdmhnkenaa.U
attribute [local go_sem] max2_int min2_int max_two min_two max_three min_three max_four min_four
end Go.Proofs.Ytelklgdmhnkenaa.U
namespace Go.Proofs.Ytelklgdmhnkenaa.U
attribute [local go_sem] max2_int min2_int max_two min_two max_three min_three max_four min_four
def Evs {α : Type} (g : Nat → Option α) (r : α) : Prop := ∃ K, ∀ k, K ≤ k → g k = some r
theorem Evs.const {α : Type} {o : Option α} {r : α} (h : o = some r) : Evs (fun _ => o) r := ⟨0, fun _ _ => h⟩
theorem Evs.all {α : Type} {g : Nat → Option α} {r : α} (h : ∀ k, g k = some r) : Evs g r := ⟨0, fun k _ => h k⟩
theorem Evs.bind {α β : Type} {g : Nat → Option α} {f : Nat → α → Option β} {a : α} {r : β} (h : Evs g a) (h2 : Evs (fun k => f k a) r) : Evs (fun k => (g k).bind (f k)) r := by
  obtain ⟨K, hK⟩ := h
  obtain ⟨K2, hK2⟩ := h2
  exact ⟨K + K2, fun k hk => by show (g k).bind (f k) = some r; rw [hK k (by omega)]; exact hK2 k (by omega)⟩
theorem Evs.succ {α : Type} {g : Nat → Option α} {r : α} (h : Evs (fun k => g (k + 1)) r) : Evs g r := by
  obtain ⟨K, hK⟩ := h
  exact ⟨K + 1, fun k hk => by obtain ⟨m, rfl⟩ : ∃ m, k = m + 1 := ⟨k - 1, by omega⟩; exact hK m (by omega)⟩
theorem Evs.congr {α : Type} {g g' : Nat → Option α} {r : α} (h : Evs g r) (e : ∀ k, g' k = g k) : Evs g' r := by
  obtain ⟨K, hK⟩ := h
  exact ⟨K, fun k hk => (e k).trans (hK k hk)⟩
theorem Evs.some {α : Type} {g : Nat → Option α} {r : α} (h : Evs g r) : ∃ k, g k = Option.some r := by
  obtain ⟨K, hK⟩ := h
  exact ⟨K, hK K (Nat.le_refl _)⟩
def inB (a lo hi : Int) : Bool := decide (lo ≤ a) && decide (a ≤ hi)
theorem within_f (a lo hi : Int) : unit_within_int.f a lo hi = some (inB a lo hi) := by
  unfold unit_within_int.f inB
  by_cases h : a ≥ lo
  · rw [if_pos h]
    have : lo ≤ a := h
    simp [this]
  · rw [if_neg h]
    have : ¬ lo ≤ a := h
    simp [this]
theorem within64_f (a lo hi : Int) : unit_within_int64.f a lo hi = some (inB a lo hi) := within_f a lo hi
def qsum (l : List S99) : Int := (l.map (·.f0)).sum
theorem qsum_cons (x : S99) (l : List S99) : qsum (x :: l) = x.f0 + qsum l := by simp [qsum]
def curveF (l : List S99) : Int := if wrongF false l = 0 then 0 else wrongF true l
def sumF (l : List S99) : Int := if curveF l = 0 then qsum l else 0
def maxF (l : List S99) : Int := if wrongF true l = 0 then qsum l else 0
theorem wrongFrom_ok {up : Bool} : ∀ {prev : Option Int} {l : List S99}, wrongFrom up prev l = 0 → ∀ x ∈ l, 1 ≤ x.f0 ∧ x.f0 ≤ 1000000 ∧ -1000000 ≤ x.f1 ∧ x.f1 ≤ 1000000
  | _, [], _ => fun x hx => by cases hx
  | prev, y :: l, h => by
    unfold wrongFrom at h
    by_cases h1 : y.f0 < 1 ∨ 1000000 < y.f0 ∨ y.f1 < -1000000 ∨ 1000000 < y.f1
    · rw [if_pos h1] at h
      omega
    · rw [if_neg h1] at h
      generalize cutB up prev y.f1 = c at h
      cases c
      · intro x hx
        rcases List.mem_cons.1 hx with rfl | hx
        · omega
        · exact wrongFrom_ok (show wrongFrom up (some y.f1) l = 0 from h) x hx
      · exact absurd (show (3 : Int) = 0 from h) (by decide)
theorem wrongF_ok {up : Bool} {l : List S99} (h : wrongF up l = 0) : l.length ≤ 3 ∧ 0 < l.length ∧ ∀ x ∈ l, 1 ≤ x.f0 ∧ x.f0 ≤ 1000000 ∧ -1000000 ≤ x.f1 ∧ x.f1 ≤ 1000000 := by
  unfold wrongF at h
  by_cases h0 : l.length = 0
  · rw [if_pos h0] at h
    omega
  · rw [if_neg h0] at h
    by_cases h3 : 3 < l.length
    · rw [if_pos h3] at h
      omega
    · rw [if_neg h3] at h
      exact ⟨by omega, by omega, wrongFrom_ok h⟩
theorem qsum_bound : ∀ {l : List S99}, (∀ x ∈ l, 1 ≤ x.f0 ∧ x.f0 ≤ 1000000 ∧ -1000000 ≤ x.f1 ∧ x.f1 ≤ 1000000) → 0 ≤ qsum l ∧ qsum l ≤ l.length * 1000000 ∧ (l.length : Int) ≤ qsum l
  | [], _ => by simp [qsum]
  | y :: l, h => by
    have h1 := h y List.mem_cons_self
    have h2 := qsum_bound (l := l) (fun x hx => h x (List.mem_cons_of_mem _ hx))
    rw [qsum_cons, List.length_cons]
    omega
theorem wrap_id {x : Int} (h0 : -9223372036854775808 ≤ x) (h1 : x ≤ 9223372036854775807) : wrap64 x = x := by unfold wrap64; omega
theorem curve_f (l : List S99) : step_curve.f l = some (curveF l) := by
  unfold step_curve.f step_CheckBid.f step_CheckOffer.f curveF
  simp only [Option.bind_some]
  split <;> rfl
theorem curve_ok {l : List S99} (h : curveF l = 0) : l.length ≤ 3 ∧ 0 < l.length ∧ ∀ x ∈ l, 1 ≤ x.f0 ∧ x.f0 ≤ 1000000 ∧ -1000000 ≤ x.f1 ∧ x.f1 ≤ 1000000 := by
  unfold curveF at h
  by_cases h1 : wrongF false l = 0
  · exact wrongF_ok h1
  · rw [if_neg h1] at h
    exact wrongF_ok h
theorem sum_loop (l : List S99) (hl : l.length ≤ 3) (hx : ∀ x ∈ l, 1 ≤ x.f0 ∧ x.f0 ≤ 1000000 ∧ -1000000 ≤ x.f1 ∧ x.f1 ≤ 1000000) (d : Nat) : ∀ (i : Nat) (acc : Int), l.length - i = d → i ≤ l.length → 0 ≤ acc → acc ≤ 1000000 * i →
    Evs (fun k => step_Sum.l0 k acc l (l.length : Int) (i : Int)) (acc + qsum (l.drop i)) := by
  induction d with
  | zero =>
    intro i acc hd hi h0 h1
    refine Evs.succ (Evs.all fun k => ?_)
    simp only [step_Sum.l0]
    rw [if_neg (by omega), List.drop_eq_nil_of_le (by omega)]
    simp [qsum]
  | succ d ih =>
    intro i acc hd hi h0 h1
    have hlt : i < l.length := by omega
    have hx1 := hx l[i] (List.getElem_mem hlt)
    have e := rd99 l i hlt
    have h := ih (i + 1) (acc + l[i].f0) (by omega) (by omega) (by omega) (by omega)
    rw [Int.add_assoc, ← qsum_cons, ← List.drop_eq_getElem_cons hlt] at h
    refine Evs.succ (h.congr fun k => ?_)
    simp only [step_Sum.l0]
    rw [if_pos (by omega), if_pos (by omega), if_pos (by omega), e, wrap_id (x := acc + l[i].f0) (by omega) (by omega), wrap_id (x := (i : Int) + 1) (by omega) (by omega)]
    rfl
theorem sum_f (l : List S99) : Evs (fun k => step_Sum.f k l) (sumF l) := by
  unfold step_Sum.f sumF
  simp only [curve_f, Option.bind_some]
  by_cases h : curveF l = 0
  · simp only [if_pos h]
    obtain ⟨h1, h2, h3⟩ := curve_ok h
    have := sum_loop l h1 h3 l.length 0 0 (by omega) (by omega) (by omega) (by omega)
    rw [Int.zero_add, List.drop_zero] at this
    exact this
  · simp only [if_neg h]
    exact Evs.const rfl
theorem max_f (a0 a1 : Int) (l : List S99) (a3 a4 a5 a6 a7 a8 : Int) : Evs (fun k => unit_Max.f k a0 a1 l a3 a4 a5 a6 a7 a8) (maxF l) := by
  unfold unit_Max.f maxF step_CheckOffer.f
  simp only [Option.bind_some]
  by_cases h : wrongF true l = 0
  · simp only [if_pos h]
    refine Evs.bind (sum_f l) (Evs.const ?_)
    unfold sumF curveF
    rw [h]
    simp
  · simp only [if_neg h]
    exact Evs.const rfl
def checkF (b m : Int) (l : List S99) (up dn st id sp on buses : Int) : Int :=
  if (!(inB b 0 (wrap64 (buses - 1))) || decide (buses < 1)) = true then 1
  else if wrongF true l = 0 then
    (if (inB m 0 (maxF l) && inB sp 0 1000000 && (inB up 1 6 && inB dn 1 6 && inB on (-6) 6 && (on != 0)) && (inB st 0 1000000000 && inB id 0 1000000000)) = true then 0 else 1)
  else wrongF true l
theorem check_f (b m : Int) (l : List S99) (up dn st id sp on buses : Int) : Evs (fun k => unit_Check.f k b m l up dn st id sp on buses) (checkF b m l up dn st id sp on buses) := by
  obtain ⟨K, hK⟩ := max_f b m l up dn st id sp on
  refine ⟨K + 3, fun k hk => ?_⟩
  obtain ⟨k, rfl⟩ : ∃ j, k = j + 3 := ⟨k - 3, by omega⟩
  have hm := hK (k + 2) (by omega)
  unfold unit_Check.f checkF
  simp only [within_f, Option.bind_some]
  generalize inB b 0 (wrap64 (buses - 1)) = w1
  generalize decide (buses < 1) = w2
  simp only [unit_Check.j0, unit_Check.j1, unit_Check.j2, within_f, within64_f, Option.bind_some, step_CheckOffer.f, hm]
  generalize inB m 0 (maxF l) = w3
  generalize inB sp 0 1000000 = w4
  generalize inB up 1 6 = w5
  generalize inB dn 1 6 = w6
  generalize inB on (-6) 6 = w7
  generalize (on != 0) = w8
  generalize inB st 0 1000000000 = w9
  generalize inB id 0 1000000000 = w10
  generalize wrongF true l = e
  by_cases he : e = 0
  · simp only [he, if_true]
    cases w1 <;> cases w2 <;> try rfl
    cases w3 <;> cases w4 <;> cases w5 <;> cases w6 <;> cases w7 <;> cases w8 <;> cases w9 <;> cases w10 <;> rfl
  · simp only [he, if_false]
    cases w1 <;> cases w2 <;> rfl
theorem zV_s {x : Int} (h : sm x) : zV (zS x) (zW x) = x := zV_z h.1 h.2
theorem ok_s {x : Int} (h : sm x) : okQ (zS x) (zW x) false [] := okQ_z h.1 h.2
theorem from_s {x : Int} (h : sm x) : frac_FromInt64.f x = some (zS x, zW x, false, []) := by
  unfold frac_FromInt64.f; rw [if_pos (show -4611686018427387904 < x ∧ x < 4611686018427387904 from h)]
theorem sign_s {x : Int} (h : sm x) : frac_Sign.f (zS x) (zW x) false [] = some (if x = 0 then 0 else if x < 0 then -1 else 1) := by
  unfold frac_Sign.f; rw [if_pos (ok_s h), zV_s h]
theorem cmp_s {x y : Int} (h : sm x) (h' : sm y) : frac_Cmp.f (zS x) (zW x) false [] (zS y) (zW y) false [] = some (if x = y then 0 else if x < y then -1 else 1) := by
  unfold frac_Cmp.f; rw [if_pos ⟨ok_s h, ok_s h'⟩, zV_s h, zV_s h']
theorem min_s {x y : Int} (h : sm x) (h' : sm y) : frac_Min.f (zS x) (zW x) false [] (zS y) (zW y) false [] = some (zS (mn x y), zW (mn x y), false, []) := by
  unfold frac_Min.f mn; rw [if_pos ⟨ok_s h, ok_s h'⟩, zV_s h, zV_s h']
  by_cases hx : x ≤ y
  · rw [if_pos hx, if_neg (by omega)]
  · rw [if_neg hx, if_pos (by omega)]
theorem add_s {x y : Int} (h : sm x) (h' : sm y) : frac_Add.f (zS x) (zW x) false [] (zS y) (zW y) false [] = some (zS (x + y), zW (x + y), false, []) := by
  unfold frac_Add.f; rw [if_pos ⟨ok_s h, ok_s h'⟩, zV_s h, zV_s h']
theorem sub_s {x y : Int} (h : sm x) (h' : sm y) : frac_Sub.f (zS x) (zW x) false [] (zS y) (zW y) false [] = some (zS (x - y), zW (x - y), false, []) := by
  unfold frac_Sub.f; rw [if_pos ⟨ok_s h, ok_s h'⟩, zV_s h, zV_s h']
theorem mul_s {x y : Int} (h : x.natAbs ≤ 100000000) (h' : y.natAbs ≤ 1000000) : frac_Mul.f (zS x) (zW x) false [] (zS y) (zW y) false [] = some (zS (x * y), zW (x * y), false, []) := by
  have sx : sm x := by unfold sm; omega
  have sy : sm y := by unfold sm; omega
  have hp : (x * y).natAbs ≤ 100000000000000 := by
    rw [Int.natAbs_mul]
    exact Nat.le_trans (Nat.mul_le_mul h h') (by omega)
  unfold frac_Mul.f smallQ
  rw [if_pos ⟨ok_s sx, ok_s sy, by rw [zV_s sx]; omega, by rw [zV_s sy]; omega, by rw [zV_s sx, zV_s sy]; omega, by rw [zV_s sx, zV_s sy]; omega⟩, zV_s sx, zV_s sy]
def qz (x : Int) : S66 := ⟨⟨zS x, zW x⟩, ⟨false, []⟩⟩
def takenF : List S99 → Int → List Int
  | [], _ => []
  | s :: l, q => mn q s.f0 :: takenF l (q - mn q s.f0)
def partF : List S99 → Int → Int
  | [], _ => 0
  | s :: l, q => mn q s.f0 * s.f1 + partF l (q - mn q s.f0)
theorem mn_le (a b : Int) : mn a b ≤ a ∧ mn a b ≤ b ∧ (mn a b = a ∨ mn a b = b) := by unfold mn; split <;> omega
abbrev okL (l : List S99) : Prop := ∀ x ∈ l, 1 ≤ x.f0 ∧ x.f0 ≤ 1000000 ∧ -1000000 ≤ x.f1 ∧ x.f1 ≤ 1000000
theorem takenF_len : ∀ (l : List S99) (q : Int), (takenF l q).length = l.length
  | [], _ => rfl
  | s :: l, q => by simp [takenF, takenF_len l]
theorem set_mid {α : Type} (a : List α) (x y : α) (b : List α) : (a ++ x :: b).set a.length y = a ++ y :: b := by
  rw [List.set_append_right _ _ (Nat.le_refl _), Nat.sub_self]; rfl
theorem rd66 (l : List S66) (k : Nat) (h : k < l.length) : rd_T66 l (k : Int) = l[k] := by simp [rd_T66, h]
theorem alloc_loop (l : List S99) (hl : l.length ≤ 3) (hx : okL l) (d : Nat) : ∀ (i : Nat) (q : Int) (pre : List S66), l.length - i = d → i ≤ l.length → pre.length = i → 0 ≤ q → q ≤ 100000000 →
    Evs (fun k => step_Allocate.l0 k (pre ++ List.replicate (l.length - i) z66) l (l.length : Int) (i : Int) (zS q) (zW q) false []) (pre ++ (takenF (l.drop i) q).map qz, 0) := by
  induction d with
  | zero =>
    intro i q pre hd hi hp hq hq2
    obtain rfl : i = l.length := by omega
    refine Evs.succ (Evs.all fun k => ?_)
    simp only [step_Allocate.l0]
    rw [if_neg (by omega)]
    simp [takenF]
  | succ d ih =>
    intro i q pre hd hi hp hq hq2
    have hlt : i < l.length := by omega
    have hs := hx l[i] (List.getElem_mem hlt)
    have e1 : rd_T99 l (i : Int) = l[i] := rd99 l i hlt
    have hd2 : l.drop i = l[i] :: l.drop (i + 1) := List.drop_eq_getElem_cons hlt
    generalize l[i] = s at hs e1 hd2
    have hm := mn_le q s.f0
    have e2 : List.replicate (l.length - i) z66 = z66 :: List.replicate (l.length - (i + 1)) z66 := by
      rw [show l.length - i = (l.length - (i + 1)) + 1 by omega]; rfl
    have hlen : ((pre ++ List.replicate (l.length - i) z66).length : Int) = l.length := by simp; omega
    have e3 : (pre ++ List.replicate (l.length - i) z66).set i (qz (mn q s.f0)) = (pre ++ [qz (mn q s.f0)]) ++ List.replicate (l.length - (i + 1)) z66 := by
      rw [e2, ← hp, set_mid]
      simp
    have e4 : rd_T66 ((pre ++ [qz (mn q s.f0)]) ++ List.replicate (l.length - (i + 1)) z66) (i : Int) = qz (mn q s.f0) := by
      rw [rd66 _ _ (by simp; omega)]
      simp [← hp]
    have h := ih (i + 1) (q - mn q s.f0) (pre ++ [qz (mn q s.f0)]) (by omega) (by omega) (by simp [hp]) (by omega) (by omega)
    refine Evs.succ ?_
    have hr : pre ++ (takenF (l.drop i) q).map qz = (pre ++ [qz (mn q s.f0)]) ++ (takenF (l.drop (i + 1)) (q - mn q s.f0)).map qz := by
      rw [hd2, takenF]; simp
    rw [hr]
    refine Evs.congr h (fun k => ?_)
    simp only [step_Allocate.l0]
    rw [if_pos (by omega), if_pos (by omega), if_pos (by omega), e1, from_s (by unfold sm; omega)]
    simp only [Option.bind_some]
    rw [min_s (by unfold sm; omega) (by unfold sm; omega)]
    simp only [Option.bind_some]
    rw [if_pos (by omega), show ((i : Int)).toNat = i from Int.toNat_natCast i, wrap_id (by omega) (by omega), show (i : Int) + 1 = ((i + 1 : Nat) : Int) by omega]
    rw [show (pre ++ List.replicate (l.length - i) z66).set i (⟨(⟨zS (mn q s.f0), zW (mn q s.f0)⟩ : S64), (⟨false, []⟩ : S64)⟩ : S66) = _ from e3, e4]
    show (frac_Sub.f (zS q) (zW q) false [] (zS (mn q s.f0)) (zW (mn q s.f0)) false []).bind _ = _
    rw [sub_s (by unfold sm; omega) (by unfold sm; omega)]
    rfl
theorem step_alloc_f {l : List S99} {q : Int} (hc : curveF l = 0) (h0 : 0 ≤ q) (h1 : q ≤ qsum l) : Evs (fun k => step_Allocate.f k l (zS q) (zW q) false []) ((takenF l q).map qz, 0) := by
  obtain ⟨h3, h4, hx⟩ := curve_ok hc
  have hb := qsum_bound hx
  have hs : sumF l = qsum l := by unfold sumF; rw [if_pos hc]
  have hq : q ≤ 3000000 := by omega
  unfold step_Allocate.f
  simp only [curve_f, hc, Option.bind_some, if_true]
  rw [sign_s (by unfold sm; omega)]
  simp only [Option.bind_some]
  simp only [if_neg (show ¬ (if q = 0 then (0 : Int) else if q < 0 then -1 else 1) < 0 by split <;> (try split) <;> omega)]
  refine (sum_f l).bind ?_
  rw [hs, from_s (by unfold sm; omega)]
  simp only [Option.bind_some]
  rw [cmp_s (by unfold sm; omega) (by unfold sm; omega)]
  simp only [Option.bind_some]
  have e : decide ((if q = qsum l then (0 : Int) else if q < qsum l then -1 else 1) > 0) = false := by
    apply decide_eq_false
    split <;> (try split) <;> omega
  rw [e]
  refine Evs.succ ?_
  have h := alloc_loop l h3 hx l.length 0 q [] (by omega) (by omega) rfl h0 (by omega)
  rw [List.drop_zero, List.nil_append] at h
  refine Evs.congr h (fun k => ?_)
  simp only [step_Allocate.j0]
  have hl : ((l.length : Int)).toNat = l.length := Int.toNat_natCast _
  simp [hl]
  omega
theorem partF_bnd : ∀ (l : List S99) (q : Int), okL l → 0 ≤ q → -(1000000000000 * (l.length : Int)) ≤ partF l q ∧ partF l q ≤ 1000000000000 * (l.length : Int)
  | [], _, _, _ => by simp [partF]
  | s :: l, q, h, hq => by
    have hs := h s List.mem_cons_self
    have hm := mn_le q s.f0
    have ih := partF_bnd l (q - mn q s.f0) (fun y hy => h y (List.mem_cons_of_mem _ hy)) (by omega)
    have hp : -1000000000000 ≤ mn q s.f0 * s.f1 ∧ mn q s.f0 * s.f1 ≤ 1000000000000 := by
      have h1 : 0 ≤ mn q s.f0 := by omega
      have h2 : mn q s.f0 ≤ 1000000 := by omega
      generalize mn q s.f0 = a at h1 h2
      have a1 : a * s.f1 ≤ a * 1000000 := Int.mul_le_mul_of_nonneg_left hs.2.2.2 h1
      have a2 : a * (-1000000) ≤ a * s.f1 := Int.mul_le_mul_of_nonneg_left hs.2.2.1 h1
      omega
    rw [partF, List.length_cons]
    omega
theorem cost_loop2 (l : List S99) (hl : l.length ≤ 3) (hx : okL l) (q0 : Int) (d : Nat) : ∀ (i : Nat) (q acc : Int), l.length - i = d → i ≤ l.length → 0 ≤ q → (takenF l q0).drop i = takenF (l.drop i) q → -(1000000000000 * (i : Int)) ≤ acc → acc ≤ 1000000000000 * (i : Int) →
    Evs (fun k => step_Cost.l0 k l ((takenF l q0).map qz) (l.length : Int) (i : Int) (zS acc) (zW acc) false []) (zS (acc + partF (l.drop i) q), zW (acc + partF (l.drop i) q), false, [], 0) := by
  induction d with
  | zero =>
    intro i q acc hd hi hq ht h0 h1
    obtain rfl : i = l.length := by omega
    refine Evs.succ (Evs.all fun k => ?_)
    simp only [step_Cost.l0]
    rw [if_neg (by omega)]
    simp [partF]
  | succ d ih =>
    intro i q acc hd hi hq ht h0 h1
    have hlt : i < l.length := by omega
    have hs := hx l[i] (List.getElem_mem hlt)
    have e1 : rd_T99 l (i : Int) = l[i] := rd99 l i hlt
    have hd2 : l.drop i = l[i] :: l.drop (i + 1) := List.drop_eq_getElem_cons hlt
    generalize l[i] = s at hs e1 hd2
    have hm := mn_le q s.f0
    have htl : (takenF l q0).length = l.length := takenF_len l q0
    rw [hd2, takenF] at ht
    have hi2 : i < (takenF l q0).length := by omega
    have ht2 := ht
    rw [List.drop_eq_getElem_cons hi2] at ht2
    obtain ⟨ha, hb⟩ := List.cons_eq_cons.1 ht2
    have e4 : rd_T66 ((takenF l q0).map qz) (i : Int) = qz (mn q s.f0) := by
      rw [rd66 _ _ (by simpa using hi2)]
      simp [ha]
    have hlen : (((takenF l q0).map qz).length : Int) = l.length := by simp [htl]
    have hp : -1000000000000 ≤ mn q s.f0 * s.f1 ∧ mn q s.f0 * s.f1 ≤ 1000000000000 := by
      have h1 : 0 ≤ mn q s.f0 := by omega
      have h2 : mn q s.f0 ≤ 1000000 := by omega
      generalize mn q s.f0 = a at h1 h2
      have a1 : a * s.f1 ≤ a * 1000000 := Int.mul_le_mul_of_nonneg_left hs.2.2.2 h1
      have a2 : a * (-1000000) ≤ a * s.f1 := Int.mul_le_mul_of_nonneg_left hs.2.2.1 h1
      omega
    have h := ih (i + 1) (q - mn q s.f0) (acc + mn q s.f0 * s.f1) (by omega) (by omega) (by omega) hb (by omega) (by omega)
    rw [hd2, partF, ← Int.add_assoc]
    refine Evs.succ (Evs.congr h (fun k => ?_))
    simp only [step_Cost.l0]
    rw [if_pos (by omega), if_pos (by omega), if_pos (by omega), if_pos (by omega), e1, e4, from_s (by unfold sm; omega)]
    show (frac_Mul.f (zS (mn q s.f0)) (zW (mn q s.f0)) false [] (zS s.f1) (zW s.f1) false []).bind _ = _
    rw [mul_s (by omega) (by omega)]
    show (frac_Add.f (zS acc) (zW acc) false [] (zS (mn q s.f0 * s.f1)) (zW (mn q s.f0 * s.f1)) false []).bind _ = _
    rw [add_s (by unfold sm; omega) (by unfold sm; omega), wrap_id (by omega) (by omega), show (i : Int) + 1 = ((i + 1 : Nat) : Int) by omega]
    rfl
theorem step_cost_f {l : List S99} {q : Int} (hc : curveF l = 0) (h0 : 0 ≤ q) (h1 : q ≤ qsum l) : Evs (fun k => step_Cost.f k l (zS q) (zW q) false []) (zS (partF l q), zW (partF l q), false, [], 0) := by
  obtain ⟨h3, h4, hx⟩ := curve_ok hc
  unfold step_Cost.f
  refine (step_alloc_f hc h0 h1).bind ?_
  simp only [if_true]
  rw [from_s (by unfold sm; omega)]
  simp only [Option.bind_some]
  have h := cost_loop2 l h3 hx q l.length 0 q 0 (by omega) (by omega) h0 (by rw [List.drop_zero, List.drop_zero]) (by omega) (by omega)
  rw [List.drop_zero, Int.zero_add] at h
  refine Evs.congr h (fun k => ?_)
  have e : (((takenF l q).map qz).length : Int) = l.length := by simp [takenF_len]
  rw [e]
  rfl
end Go.Proofs.Ytelklgdmhnkenaa.U
namespace Go.Proofs.Ytelklgdmhnkenaa.U
attribute [local go_sem] max2_int min2_int max_two min_two max_three min_three max_four min_four
def energy_Check.l0 : Nat → List (S24) → List Bool → List (S24) → Int → Int → Option (Int)
 | 0, _, _, _, _, _ => none
 | k + 1, x0, x1, x11, x12, x13 => if x13 < x12 then (if 0 ≤ x13 then (if x13 < (x11.length : Int) then ((unit_Check.f k ((rd_T24 x11 x13).f0) ((rd_T24 x11 x13).f1) ((rd_T24 x11 x13).f2) ((rd_T24 x11 x13).f3) ((rd_T24 x11 x13).f4) ((rd_T24 x11 x13).f5) ((rd_T24 x11 x13).f6) ((rd_T24 x11 x13).f7) ((rd_T24 x11 x13).f8) 6).bind fun t344 => (if t344 = 0 then (energy_Check.l0 k x0 x1 x11 x12 (wrap64 (x13 + 1))) else (some t344))) else (none)) else (none)) else (if (x1.length : Int) = (x0.length : Int) then (some 0) else (some 3))
def energy_Check.f (k : Nat) (l0 : List (S24)) (l1 : List Bool) : Option (Int) := if (l0.length : Int) > 5 then (some 5) else (energy_Check.l0 k l0 l1 l0 (l0.length : Int) 0)
set_option maxHeartbeats 8000000 in
set_option maxRecDepth 100000 in
theorem energy_Check.calls (k : Nat) (A0 : Option Addr) (c0 : Nat) (l0 : List (S24)) (A1 : Option Addr) (c1 : Nat) (l1 : List Bool) (r : Int) (w : World) (hr0 : Kd.C k24 w A0 l0.length l0) (hc0 : l0.length ≤ c0) (hr1 : Kd.C Kd.bool w A1 l1.length l1) (hc1 : l1.length ≤ c1) (h : energy_Check.f k l0 l1 = some r) :
  Calls Try.prog 35 #[.slice A0 l0.length c0, .slice A1 l1.length c1] w fun e w' => e = .returned (.int .i64 r) ∧ Below w.heap.size w w' := by
 have HR0 := Aside0.mk hr0
 clear hr0 hc0
 clear hr1 hc1
 have HB := Aside0.mk (Below.refl w.heap.size w)
 have H : (if (l0.length : Int) > 5 then (some 5) else (energy_Check.l0 k l0 l1 l0 (l0.length : Int) 0)) = some r := h
 clear h
 by_cases c3 : (l0.length : Int) > 5
 ·rw [if_pos c3] at H
  have c3b0 : decide (5 < (l0.length : Int)) = true := decide_eq_true c3
  clear c3
  obtain rfl := Option.some.inj H
  go_enter Try.func35, Try.ntmps35
  go_wp2
  go_ret
  exact ⟨m_3, m_1⟩
 ·rw [if_neg c3] at H
  have c3b0 : decide (5 < (l0.length : Int)) = false := decide_eq_false c3
  clear c3
  have H' := Aside0.mk H
  clear H
  go_enter Try.func35, Try.ntmps35
  go_wp2
  go_loopg [13] k (fun kq v13 w' => ∃ (x13_1 : Int), v13 = .int .i64 x13_1 ∧ Aside0 (energy_Check.l0 kq l0 l1 l0 (l0.length : Int) x13_1 = some r) ∧ Aside0 (kq ≤ k) ∧ Aside0 (Below w.heap.size w w'))
  case atStart => exact ⟨(0), m_14, H', ⟨Nat.le_refl _⟩, ⟨m_1⟩⟩
  case round =>
   clear H'
   (try clear c1); (try clear p2); (try clear c3); (try clear c3b0); (try skip)
   obtain ⟨x13_1, rfl, HA, HK1, HB⟩ := hrel
   cases gk with
   | zero => exact absurd HA.out (by simp [energy_Check.l0])
   | succ k1 =>
    have H := HA.out
    clear HA
    simp only [energy_Check.l0] at H
    by_cases c4 : x13_1 < (l0.length : Int)
    ·rw [if_pos c4] at H
     clear c4
     by_cases c5 : 0 ≤ x13_1
     ·rw [if_pos c5] at H
      have c5b0 : decide (0 ≤ x13_1) = true := decide_eq_true c5
      clear c5
      by_cases c6 : x13_1 < (l0.length : Int)
      ·rw [if_pos c6] at H
       have c6b0 : decide (x13_1 < (l0.length : Int)) = true := decide_eq_true c6
       clear c6
       replace H := Option.bind_eq_some_iff.mp H
       obtain ⟨t344, A70, H⟩ := H
       replace H : (if t344 = 0 then (energy_Check.l0 k1 l0 l1 l0 (l0.length : Int) (wrap64 (x13_1 + 1))) else (some t344)) = some r := H
       have A7 := Aside0.mk A70
       clear A70
       by_cases c8 : t344 = 0
       ·rw [if_pos c8] at H
        have c8b1 : (t344 != 0) = false := bne_eq_false_iff_eq.mpr c8
        clear c8
        have H' := Aside0.mk H
        clear H
        have p342 : 0 ≤ (x13_1 : Int) := of_decide_eq_true m_10
        have q342 : x13_1 < (l0.length : Int) := of_decide_eq_true m_10
        obtain ⟨ad342, A342_2, c342_2, e342, hx342_0, hx342_1, hx342_2, hx342_3, hx342_4, hx342_5, hx342_6, hx342_7, hx342_8, hl342_2, hi342_2⟩ := at_T24 HR0.out x13_1 p342 q342
        cases e342
        replace hx342_0 := mv_ HB hx342_0
        replace hx342_1 := mv_ HB hx342_1
        replace hx342_2 := mv_ HB hx342_2
        replace hx342_3 := mv_ HB hx342_3
        replace hx342_4 := mv_ HB hx342_4
        replace hx342_5 := mv_ HB hx342_5
        replace hx342_6 := mv_ HB hx342_6
        replace hx342_7 := mv_ HB hx342_7
        replace hx342_8 := mv_ HB hx342_8
        have HR342_2 := Aside0.mk hi342_2
        have HC342_2 := Aside0.mk hl342_2
        clear hi342_2 hl342_2
        replace p342 := eq_true p342
        replace q342 := eq_true q342
        go_wp2_with (first | ((with_reducible refine gate_dst (N := 6) rfl ?_); refine box_event ?hg (N := 6) ?hd (cs := #[.int .i64 0, .int .i64 0, .slice none 0 0, .int .i64 0, .int .i64 0, .int .i64 0, .int .i64 0, .int .i64 0, .int .i64 0]) (t := 24) ?hr ?_; (case hd => rfl); (case hg => rfl); (case hr => exact hr_); intro gb343 hg w9 hbox hb; have BK343 := Aside0.mk (hbox); have GE343 := gW_ (w := w) hg m_1; replace HB := Aside0.mk (below_step m_1 hb); clear hb hbox hg; obtain ⟨hcz10_0, hcz10_1, hcz10_2, hcz10_3, hcz10_4, hcz10_5, hcz10_6, hcz10_7, hcz10_8, hfz10_0, hfz10_1, hfz10_2, hfz10_3, hfz10_4, hfz10_5, hfz10_6, hfz10_7, hfz10_8⟩ := cf9_ BK343) | ((with_reducible refine gate_callee (f := 34) rfl ?_); refine goesL_ (some 18) rfl rfl Try.func34 m_19 rfl #[.agg #[.int .i64 ((rd_T24 l0 x13_1).f0), .int .i64 ((rd_T24 l0 x13_1).f1), .slice A342_2 ((rd_T24 l0 x13_1).f2).length c342_2, .int .i64 ((rd_T24 l0 x13_1).f3), .int .i64 ((rd_T24 l0 x13_1).f4), .int .i64 ((rd_T24 l0 x13_1).f5), .int .i64 ((rd_T24 l0 x13_1).f6), .int .i64 ((rd_T24 l0 x13_1).f7), .int .i64 ((rd_T24 l0 x13_1).f8)], .int .i64 6] rfl m_2 ?_; (with_reducible refine (unit_Check.calls k1 ((rd_T24 l0 x13_1).f0) ((rd_T24 l0 x13_1).f1) _ _ ((rd_T24 l0 x13_1).f2) ((rd_T24 l0 x13_1).f3) ((rd_T24 l0 x13_1).f4) ((rd_T24 l0 x13_1).f5) ((rd_T24 l0 x13_1).f6) ((rd_T24 l0 x13_1).f7) ((rd_T24 l0 x13_1).f8) 6 t344 _ ?side1 ?side2 A7.out).mono ?_); (case side1 => exact Kd.C_below HR342_2.out m_56); (case side2 => exact HC342_2.out); rintro e w11 ⟨rfl, hb⟩; refine ⟨_, rfl, ?_⟩; replace HB := Aside0.mk (below_step m_56 hb); clear hb))
        go_roundg k1
        case measure => have := HK1.out; omega
        case rel => exact ⟨(wrap64 (x13_1 + 1)), m_14, H', ⟨m_117⟩, ⟨m_56⟩⟩
       ·rw [if_neg c8] at H
        have c8b1 : (t344 != 0) = true := bne_iff_ne.mpr c8
        obtain rfl := Option.some.inj H
        have p342 : 0 ≤ (x13_1 : Int) := of_decide_eq_true m_10
        have q342 : x13_1 < (l0.length : Int) := of_decide_eq_true m_10
        obtain ⟨ad342, A342_2, c342_2, e342, hx342_0, hx342_1, hx342_2, hx342_3, hx342_4, hx342_5, hx342_6, hx342_7, hx342_8, hl342_2, hi342_2⟩ := at_T24 HR0.out x13_1 p342 q342
        cases e342
        replace hx342_0 := mv_ HB hx342_0
        replace hx342_1 := mv_ HB hx342_1
        replace hx342_2 := mv_ HB hx342_2
        replace hx342_3 := mv_ HB hx342_3
        replace hx342_4 := mv_ HB hx342_4
        replace hx342_5 := mv_ HB hx342_5
        replace hx342_6 := mv_ HB hx342_6
        replace hx342_7 := mv_ HB hx342_7
        replace hx342_8 := mv_ HB hx342_8
        have HR342_2 := Aside0.mk hi342_2
        have HC342_2 := Aside0.mk hl342_2
        clear hi342_2 hl342_2
        replace p342 := eq_true p342
        replace q342 := eq_true q342
        go_wp2_with (first | ((with_reducible refine gate_dst (N := 6) rfl ?_); refine box_event ?hg (N := 6) ?hd (cs := #[.int .i64 0, .int .i64 0, .slice none 0 0, .int .i64 0, .int .i64 0, .int .i64 0, .int .i64 0, .int .i64 0, .int .i64 0]) (t := 24) ?hr ?_; (case hd => rfl); (case hg => rfl); (case hr => exact hr_); intro gb343 hg w12 hbox hb; have BK343 := Aside0.mk (hbox); have GE343 := gW_ (w := w) hg m_1; replace HB := Aside0.mk (below_step m_1 hb); clear hb hbox hg; obtain ⟨hcz13_0, hcz13_1, hcz13_2, hcz13_3, hcz13_4, hcz13_5, hcz13_6, hcz13_7, hcz13_8, hfz13_0, hfz13_1, hfz13_2, hfz13_3, hfz13_4, hfz13_5, hfz13_6, hfz13_7, hfz13_8⟩ := cf9_ BK343) | ((with_reducible refine gate_callee (f := 34) rfl ?_); refine goesL_ (some 18) rfl rfl Try.func34 m_19 rfl #[.agg #[.int .i64 ((rd_T24 l0 x13_1).f0), .int .i64 ((rd_T24 l0 x13_1).f1), .slice A342_2 ((rd_T24 l0 x13_1).f2).length c342_2, .int .i64 ((rd_T24 l0 x13_1).f3), .int .i64 ((rd_T24 l0 x13_1).f4), .int .i64 ((rd_T24 l0 x13_1).f5), .int .i64 ((rd_T24 l0 x13_1).f6), .int .i64 ((rd_T24 l0 x13_1).f7), .int .i64 ((rd_T24 l0 x13_1).f8)], .int .i64 6] rfl m_2 ?_; (with_reducible refine (unit_Check.calls k1 ((rd_T24 l0 x13_1).f0) ((rd_T24 l0 x13_1).f1) _ _ ((rd_T24 l0 x13_1).f2) ((rd_T24 l0 x13_1).f3) ((rd_T24 l0 x13_1).f4) ((rd_T24 l0 x13_1).f5) ((rd_T24 l0 x13_1).f6) ((rd_T24 l0 x13_1).f7) ((rd_T24 l0 x13_1).f8) 6 t344 _ ?side1 ?side2 A7.out).mono ?_); (case side1 => exact Kd.C_below HR342_2.out m_56); (case side2 => exact HC342_2.out); rintro e w14 ⟨rfl, hb⟩; refine ⟨_, rfl, ?_⟩; replace HB := Aside0.mk (below_step m_56 hb); clear hb))
        go_ret
        exact ⟨m_3, m_56⟩
      ·rw [if_neg c6] at H
       exact absurd H (by simp)
     ·rw [if_neg c5] at H
      exact absurd H (by simp)
    ·rw [if_neg c4] at H
     have c4b0 : decide (x13_1 < (l0.length : Int)) = false := decide_eq_false c4
     clear c4
     by_cases c15 : (l1.length : Int) = (l0.length : Int)
     ·rw [if_pos c15] at H
      have c15b1 : ((l1.length : Int) != (l0.length : Int)) = false := bne_eq_false_iff_eq.mpr c15
      clear c15
      obtain rfl := Option.some.inj H
      go_wp2
      go_ret
      exact ⟨m_3, m_1⟩
     ·rw [if_neg c15] at H
      have c15b1 : ((l1.length : Int) != (l0.length : Int)) = true := bne_iff_ne.mpr c15
      obtain rfl := Option.some.inj H
      go_wp2
      go_ret
      exact ⟨m_3, m_1⟩
end Go.Proofs.Ytelklgdmhnkenaa.U
namespace Go.Proofs.Ytelklgdmhnkenaa.U
attribute [local go_sem] max2_int min2_int max_two min_two max_three min_three max_four min_four
def energy_Cost.l0 : Nat → List (S24) → List Bool → Int → List Int → Int → Int → Option (Int × Int)
 | 0, _, _, _, _, _, _ => none
 | k + 1, x0, x1, x9, x25, x26, x27 => if x27 < x26 then (if 0 ≤ x27 then (if x27 < (x25.length : Int) then (if x27 < (x0.length : Int) then ((unit_Max.f k ((rd_T24 x0 x27).f0) ((rd_T24 x0 x27).f1) ((rd_T24 x0 x27).f2) ((rd_T24 x0 x27).f3) ((rd_T24 x0 x27).f4) ((rd_T24 x0 x27).f5) ((rd_T24 x0 x27).f6) ((rd_T24 x0 x27).f7) ((rd_T24 x0 x27).f8)).bind fun t715 => (if x27 < (x1.length : Int) then (if rdOf false x1 x27 = true then (if (rd x25 x27) < ((rd_T24 x0 x27).f1) then (some (0, 3)) else (if (rd x25 x27) > t715 then (some (0, 3)) else ((energy_part.f k ((rd_T24 x0 x27).f2) (rd x25 x27)).bind fun t718 => (energy_Cost.l0 k x0 x1 (wrap64 (x9 + t718)) x25 x26 (wrap64 (x27 + 1)))))) else (if (rd x25 x27) < 0 then (some (0, 3)) else (if (rd x25 x27) > 0 then (some (0, 3)) else ((energy_part.f k ((rd_T24 x0 x27).f2) (rd x25 x27)).bind fun t720 => (energy_Cost.l0 k x0 x1 (wrap64 (x9 + t720)) x25 x26 (wrap64 (x27 + 1))))))) else (none))) else (none)) else (none)) else (none)) else (some (x9, 0))
def energy_Cost.f (k : Nat) (l0 : List (S24)) (l1 : List Bool) (l2 : List Int) : Option (Int × Int) := (energy_Check.f k l0 l1).bind fun t711 => (if t711 = 0 then (if (l2.length : Int) = (l0.length : Int) then (energy_Cost.l0 k l0 l1 0 l2 (l2.length : Int) 0) else (some (0, 3))) else (some (0, t711)))
def energy_Cost.T10 : Bool × List (List Nat × List Nat) := (true, [([], []), ([], []), ([0, 1], [0, 1]), ([2], [2]), ([3], [3]), ([], []), ([], []), ([5, 6], [5, 6]), ([7], [7]), ([8], [8]), ([4, 9, 0, 1, 2, 3, 4], [4]), ([9, 10, 0, 1, 2, 3, 4, 5, 6, 7, 8, 9, 10], [9])])
def energy_Cost.B10 : List Nat := [0, 0, 3, 7, 15, 0, 0, 96, 224, 480, 1023, 2047]
theorem energy_Cost.tab10 : rtab .any (opsOf Try.f31 10) = energy_Cost.T10 := by kernel_rfl
theorem energy_Cost.bits10 : waitsOk energy_Cost.T10.2 energy_Cost.B10 = true := by kernel_rfl
set_option maxHeartbeats 8000000 in
set_option maxRecDepth 100000 in
theorem energy_Cost.calls (k : Nat) (A0 : Option Addr) (c0 : Nat) (l0 : List (S24)) (A1 : Option Addr) (c1 : Nat) (l1 : List Bool) (A2 : Option Addr) (c2 : Nat) (l2 : List Int) (r1 : Int) (r2 : Int) (w : World) (hr0 : Kd.C k24 w A0 l0.length l0) (hc0 : l0.length ≤ c0) (hr1 : Kd.C Kd.bool w A1 l1.length l1) (hc1 : l1.length ≤ c1) (hr2 : Kd.C (Kd.int .i64) w A2 l2.length l2) (hc2 : l2.length ≤ c2) (h : energy_Cost.f k l0 l1 l2 = some (r1, r2)) :
  Calls Try.prog 31 #[.slice A0 l0.length c0, .slice A1 l1.length c1, .slice A2 l2.length c2] w fun e w' => e = .returned (.tuple #[.int .i64 r1, .int .i64 r2]) ∧ Below w.heap.size w w' := by
 have HR0 := Aside0.mk hr0
 have HC0 := Aside0.mk hc0
 clear hr0 hc0
 have HR1 := Aside0.mk hr1
 have HC1 := Aside0.mk hc1
 clear hr1 hc1
 have HR2 := Aside0.mk hr2
 clear hr2 hc2
 have HB := Aside0.mk (Below.refl w.heap.size w)
 have H : ((energy_Check.f k l0 l1).bind fun t711 => (if t711 = 0 then (if (l2.length : Int) = (l0.length : Int) then (energy_Cost.l0 k l0 l1 0 l2 (l2.length : Int) 0) else (some (0, 3))) else (some (0, t711)))) = some (r1, r2) := h
 clear h
 replace H := Option.bind_eq_some_iff.mp H
 obtain ⟨t711, A40, H⟩ := H
 replace H : (if t711 = 0 then (if (l2.length : Int) = (l0.length : Int) then (energy_Cost.l0 k l0 l1 0 l2 (l2.length : Int) 0) else (some (0, 3))) else (some (0, t711))) = some (r1, r2) := H
 have A4 := Aside0.mk A40
 clear A40
 by_cases c5 : t711 = 0
 ·rw [if_pos c5] at H
  have c5b1 : (t711 != 0) = false := bne_eq_false_iff_eq.mpr c5
  clear c5
  by_cases c6 : (l2.length : Int) = (l0.length : Int)
  ·rw [if_pos c6] at H
   have c6b1 : ((l2.length : Int) != (l0.length : Int)) = false := bne_eq_false_iff_eq.mpr c6
   clear c6
   have H' := Aside0.mk H
   clear H
   go_enter Try.func31, Try.ntmps31
   go_wp2_with (first | ((with_reducible refine gate_callee (f := 35) rfl ?_); refine goesL_ (some 16) rfl rfl Try.func35 m_19 rfl #[.slice A0 l0.length c0, .slice A1 l1.length c1] rfl m_2 ?_; (with_reducible refine (energy_Check.calls k _ _ l0 _ _ l1 t711 _ ?side1 ?side2 ?side3 ?side4 A4.out).mono ?_); (case side1 => exact cA_ HR0.out); (case side2 => exact HC0.out); (case side3 => exact cA_ HR1.out); (case side4 => exact HC1.out); rintro e w7 ⟨rfl, hb⟩; refine ⟨_, rfl, ?_⟩; replace HB := Aside0.mk (below_step m_1 hb); clear hb))
   go_loopg [9, 27] k (fun kq v9 v27 w' => ∃ (x9_1 : Int) (x27_1 : Int), v9 = .int .i64 x9_1 ∧ v27 = .int .i64 x27_1 ∧ Aside0 (energy_Cost.l0 kq l0 l1 x9_1 l2 (l2.length : Int) x27_1 = some (r1, r2)) ∧ Aside0 (kq ≤ k) ∧ Aside0 (Below w.heap.size w w'))
   case atStart => exact ⟨(0), (0), m_14, m_14, H', ⟨Nat.le_refl _⟩, ⟨m_1⟩⟩
   case round =>
    clear H'
    (try clear c1); (try clear c2); (try clear p2); (try clear c3); (try clear c5); (try skip); (try clear c5b1); (try clear c6); (try skip); (try clear c6b1); (try skip)
    obtain ⟨x9_1, x27_1, rfl, rfl, HA, HK1, HB⟩ := hrel
    cases gk with
    | zero => exact absurd HA.out (by simp [energy_Cost.l0])
    | succ k1 =>
     have H := HA.out
     clear HA
     simp only [energy_Cost.l0] at H
     by_cases c8 : x27_1 < (l2.length : Int)
     ·rw [if_pos c8] at H
      clear c8
      by_cases c9 : 0 ≤ x27_1
      ·rw [if_pos c9] at H
       have c9b0 : decide (0 ≤ x27_1) = true := decide_eq_true c9
       clear c9
       by_cases c10 : x27_1 < (l2.length : Int)
       ·rw [if_pos c10] at H
        have c10b0 : decide (x27_1 < (l2.length : Int)) = true := decide_eq_true c10
        clear c10
        by_cases c11 : x27_1 < (l0.length : Int)
        ·rw [if_pos c11] at H
         have c11b0 : decide (x27_1 < (l0.length : Int)) = true := decide_eq_true c11
         clear c11
         replace H := Option.bind_eq_some_iff.mp H
         obtain ⟨t715, A120, H⟩ := H
         replace H : (if x27_1 < (l1.length : Int) then (if rdOf false l1 x27_1 = true then (if (rd l2 x27_1) < ((rd_T24 l0 x27_1).f1) then (some (0, 3)) else (if (rd l2 x27_1) > t715 then (some (0, 3)) else ((energy_part.f k1 ((rd_T24 l0 x27_1).f2) (rd l2 x27_1)).bind fun t718 => (energy_Cost.l0 k1 l0 l1 (wrap64 (x9_1 + t718)) l2 (l2.length : Int) (wrap64 (x27_1 + 1)))))) else (if (rd l2 x27_1) < 0 then (some (0, 3)) else (if (rd l2 x27_1) > 0 then (some (0, 3)) else ((energy_part.f k1 ((rd_T24 l0 x27_1).f2) (rd l2 x27_1)).bind fun t720 => (energy_Cost.l0 k1 l0 l1 (wrap64 (x9_1 + t720)) l2 (l2.length : Int) (wrap64 (x27_1 + 1))))))) else (none)) = some (r1, r2) := H
         have A12 := Aside0.mk A120
         clear A120
         by_cases c13 : x27_1 < (l1.length : Int)
         ·rw [if_pos c13] at H
          have c13b0 : decide (x27_1 < (l1.length : Int)) = true := decide_eq_true c13
          clear c13
          obtain ⟨bq14, hbq14⟩ : ∃ b_ : Bool, b_ = (rdOf false l1 x27_1) := ⟨_, rfl⟩
          replace H : (if bq14 = true then (if (rd l2 x27_1) < ((rd_T24 l0 x27_1).f1) then (some (0, 3)) else (if (rd l2 x27_1) > t715 then (some (0, 3)) else ((energy_part.f k1 ((rd_T24 l0 x27_1).f2) (rd l2 x27_1)).bind fun t718 => (energy_Cost.l0 k1 l0 l1 (wrap64 (x9_1 + t718)) l2 (l2.length : Int) (wrap64 (x27_1 + 1)))))) else (if (rd l2 x27_1) < 0 then (some (0, 3)) else (if (rd l2 x27_1) > 0 then (some (0, 3)) else ((energy_part.f k1 ((rd_T24 l0 x27_1).f2) (rd l2 x27_1)).bind fun t720 => (energy_Cost.l0 k1 l0 l1 (wrap64 (x9_1 + t720)) l2 (l2.length : Int) (wrap64 (x27_1 + 1))))))) = some (r1, r2) := by rw [← hbq14] at H; exact H
          have Nbq14 := Aside0.mk hbq14
          clear hbq14
          have p712 : 0 ≤ (x27_1 : Int) := of_decide_eq_true m_10
          have q712 : x27_1 < (l2.length : Int) := of_decide_eq_true m_10
          obtain ⟨ad712, e712, hx712_0⟩ := Kd.at_int HR2.out x27_1 p712 q712
          cases e712
          replace hx712_0 := mv_ HB hx712_0
          replace p712 := eq_true p712
          replace q712 := eq_true q712
          try go_wp2
          replace HB := Aside0.mk (below_drew1 HB.out)
          have p713 : 0 ≤ (x27_1 : Int) := of_decide_eq_true m_10
          have q713 : x27_1 < (l0.length : Int) := of_decide_eq_true m_10
          obtain ⟨ad713, A713_2, c713_2, e713, hx713_0, hx713_1, hx713_2, hx713_3, hx713_4, hx713_5, hx713_6, hx713_7, hx713_8, hl713_2, hi713_2⟩ := at_T24 HR0.out x27_1 p713 q713
          have hw713_8 := hx713_8
          have hw713_7 := hx713_7
          have hw713_6 := hx713_6
          have hw713_5 := hx713_5
          have hw713_4 := hx713_4
          have hw713_3 := hx713_3
          have hw713_2 := hx713_2
          have hw713_1 := hx713_1
          have hw713_0 := hx713_0
          cases e713
          replace hx713_2 := mv_ HB hx713_2
          clear hi713_2 hl713_2
          replace q713 := eq_true q713
          have p714 : 0 ≤ (x27_1 : Int) := of_decide_eq_true m_10
          have q714 : x27_1 < (l0.length : Int) := of_decide_eq_true m_10
          obtain ⟨ad714, A714_2, c714_2, e714, hx714_0, hx714_1, hx714_2, hx714_3, hx714_4, hx714_5, hx714_6, hx714_7, hx714_8, hl714_2, hi714_2⟩ := at_T24 HR0.out x27_1 p714 q714
          have hw714_8 := hx714_8
          have hw714_7 := hx714_7
          have hw714_6 := hx714_6
          have hw714_5 := hx714_5
          have hw714_4 := hx714_4
          have hw714_3 := hx714_3
          have hw714_2 := hx714_2
          have hw714_1 := hx714_1
          have hw714_0 := hx714_0
          obtain rfl : ad713 = ad714 := (by injection e714)
          replace hx714_2 := mv_ HB hx714_2
          have HR714_2 := Aside0.mk hi714_2
          have HC714_2 := Aside0.mk hl714_2
          clear hi714_2 hl714_2
          have ea_ := Option.some.inj (hx713_2.symm.trans hx714_2)
          injection ea_ with ea_ en_ ec_
          subst ea_
          subst ec_
          clear en_
          refine start_ (n := 12) (S := fun w' => w'.cell? (ad713.add ((x27_1).toNat * 9)) = some (.int .i64 ((rd_T24 l0 x27_1).f0)) ∧ w'.cell? ⟨(ad713.add ((x27_1).toNat * 9)).block, (ad713.add ((x27_1).toNat * 9)).off + 1, none⟩ = some (.int .i64 ((rd_T24 l0 x27_1).f1)) ∧ w'.cell? ⟨(ad713.add ((x27_1).toNat * 9)).block, (ad713.add ((x27_1).toNat * 9)).off + 2, none⟩ = some (.slice A713_2 ((rd_T24 l0 x27_1).f2).length c713_2) ∧ w'.cell? ⟨(ad713.add ((x27_1).toNat * 9)).block, (ad713.add ((x27_1).toNat * 9)).off + 3, none⟩ = some (.int .i64 ((rd_T24 l0 x27_1).f3)) ∧ w'.cell? ⟨(ad713.add ((x27_1).toNat * 9)).block, (ad713.add ((x27_1).toNat * 9)).off + 4, none⟩ = some (.int .i64 ((rd_T24 l0 x27_1).f4)) ∧ w'.cell? ⟨(ad713.add ((x27_1).toNat * 9)).block, (ad713.add ((x27_1).toNat * 9)).off + 5, none⟩ = some (.int .i64 ((rd_T24 l0 x27_1).f5)) ∧ w'.cell? ⟨(ad713.add ((x27_1).toNat * 9)).block, (ad713.add ((x27_1).toNat * 9)).off + 6, none⟩ = some (.int .i64 ((rd_T24 l0 x27_1).f6)) ∧ w'.cell? ⟨(ad713.add ((x27_1).toNat * 9)).block, (ad713.add ((x27_1).toNat * 9)).off + 7, none⟩ = some (.int .i64 ((rd_T24 l0 x27_1).f7)) ∧ w'.cell? ⟨(ad713.add ((x27_1).toNat * 9)).block, (ad713.add ((x27_1).toNat * 9)).off + 8, none⟩ = some (.int .i64 ((rd_T24 l0 x27_1).f8)) ∧ w'.cell? (ad713.add ((x27_1).toNat * 9)) = some (.int .i64 ((rd_T24 l0 x27_1).f0)) ∧ w'.cell? ⟨(ad713.add ((x27_1).toNat * 9)).block, (ad713.add ((x27_1).toNat * 9)).off + 1, none⟩ = some (.int .i64 ((rd_T24 l0 x27_1).f1)) ∧ w'.cell? ⟨(ad713.add ((x27_1).toNat * 9)).block, (ad713.add ((x27_1).toNat * 9)).off + 2, none⟩ = some (.slice A713_2 ((rd_T24 l0 x27_1).f2).length c713_2) ∧ w'.cell? ⟨(ad713.add ((x27_1).toNat * 9)).block, (ad713.add ((x27_1).toNat * 9)).off + 3, none⟩ = some (.int .i64 ((rd_T24 l0 x27_1).f3)) ∧ w'.cell? ⟨(ad713.add ((x27_1).toNat * 9)).block, (ad713.add ((x27_1).toNat * 9)).off + 4, none⟩ = some (.int .i64 ((rd_T24 l0 x27_1).f4)) ∧ w'.cell? ⟨(ad713.add ((x27_1).toNat * 9)).block, (ad713.add ((x27_1).toNat * 9)).off + 5, none⟩ = some (.int .i64 ((rd_T24 l0 x27_1).f5)) ∧ w'.cell? ⟨(ad713.add ((x27_1).toNat * 9)).block, (ad713.add ((x27_1).toNat * 9)).off + 6, none⟩ = some (.int .i64 ((rd_T24 l0 x27_1).f6)) ∧ w'.cell? ⟨(ad713.add ((x27_1).toNat * 9)).block, (ad713.add ((x27_1).toNat * 9)).off + 7, none⟩ = some (.int .i64 ((rd_T24 l0 x27_1).f7)) ∧ w'.cell? ⟨(ad713.add ((x27_1).toNat * 9)).block, (ad713.add ((x27_1).toNat * 9)).off + 8, none⟩ = some (.int .i64 ((rd_T24 l0 x27_1).f8))) (ds := []) #[false, false, false, false, false, false, false, false, false, false, false, false] m_19 rfl rfl ⟨(mv_ HB hw713_0), (mv_ HB hw713_1), (mv_ HB hw713_2), (mv_ HB hw713_3), (mv_ HB hw713_4), (mv_ HB hw713_5), (mv_ HB hw713_6), (mv_ HB hw713_7), (mv_ HB hw713_8), (mv_ HB hw714_0), (mv_ HB hw714_1), (mv_ HB hw714_2), (mv_ HB hw714_3), (mv_ HB hw714_4), (mv_ HB hw714_5), (mv_ HB hw714_6), (mv_ HB hw714_7), (mv_ HB hw714_8)⟩ (fun hHeld => ?_); refine with_tabW energy_Cost.tab10 energy_Cost.bits10 (fun HT_ HW_ => ?_)
          generalize wr.drew = w17 at HB HR714_2 hx713_2 hx714_2 hHeld ⊢
          refine pA_ 0 HT_.out ?_
          refine pA_ 1 HT_.out ?_
          refine pA_ 2 HT_.out ?_
          refine pA_ 3 HT_.out ?_
          refine pA_ 5 HT_.out ?_
          refine pA_ 6 HT_.out ?_
          refine pA_ 7 HT_.out ?_
          refine tA_ 4 HT_.out HW_.out hHeld ?_
          refine tA_ 8 HT_.out HW_.out hHeld ?_
          refine cB_1 9 Try.func37 (args := #[.agg #[.int .i64 ((rd_T24 l0 x27_1).f0), .int .i64 ((rd_T24 l0 x27_1).f1), .slice A713_2 ((rd_T24 l0 x27_1).f2).length c713_2, .int .i64 ((rd_T24 l0 x27_1).f3), .int .i64 ((rd_T24 l0 x27_1).f4), .int .i64 ((rd_T24 l0 x27_1).f5), .int .i64 ((rd_T24 l0 x27_1).f6), .int .i64 ((rd_T24 l0 x27_1).f7), .int .i64 ((rd_T24 l0 x27_1).f8)]]) ?_
          with_reducible refine (unit_Max.calls k1 ((rd_T24 l0 x27_1).f0) ((rd_T24 l0 x27_1).f1) _ _ ((rd_T24 l0 x27_1).f2) ((rd_T24 l0 x27_1).f3) ((rd_T24 l0 x27_1).f4) ((rd_T24 l0 x27_1).f5) ((rd_T24 l0 x27_1).f6) ((rd_T24 l0 x27_1).f7) ((rd_T24 l0 x27_1).f8) t715 _ ?side1 ?side2 A12.out).mono ?_
          (case side1 => exact cA_ (Kd.C_below HR714_2.out HB.out))
          (case side2 => exact HC714_2.out)
          rintro e w18 ⟨rfl, hb⟩
          refine ⟨_, rfl, ?_⟩
          replace HB := Aside0.mk (below_step m_1 hb)
          (try clear hb); (try clear hb2); (try clear hk); (try clear hi)
          refine nx_ ⟨(mv_ HB hw713_0), (mv_ HB hw713_1), (mv_ HB hw713_2), (mv_ HB hw713_3), (mv_ HB hw713_4), (mv_ HB hw713_5), (mv_ HB hw713_6), (mv_ HB hw713_7), (mv_ HB hw713_8), (mv_ HB hw714_0), (mv_ HB hw714_1), (mv_ HB hw714_2), (mv_ HB hw714_3), (mv_ HB hw714_4), (mv_ HB hw714_5), (mv_ HB hw714_6), (mv_ HB hw714_7), (mv_ HB hw714_8)⟩ (fun hHeld => ?_)
          refine pA_ 10 HT_.out ?_
          refine pA_ 11 HT_.out ?_
          refine done_ (done_of HT_.out m_19) ?_
          have p716 : 0 ≤ (x27_1 : Int) := of_decide_eq_true m_10
          have q716 : x27_1 < (l1.length : Int) := of_decide_eq_true m_10
          obtain ⟨ad716, e716, hx716_0⟩ := Kd.at_bool HR1.out x27_1 p716 q716
          (try rw [← Nbq14.out] at hx716_0)
          cases e716
          replace hx716_0 := mv_ HB hx716_0
          replace q716 := eq_true q716
          by_cases c15 : bq14 = true
          ·subst c15
           have H1 : (if (rd l2 x27_1) < ((rd_T24 l0 x27_1).f1) then (some (0, 3)) else (if (rd l2 x27_1) > t715 then (some (0, 3)) else ((energy_part.f k1 ((rd_T24 l0 x27_1).f2) (rd l2 x27_1)).bind fun t718 => (energy_Cost.l0 k1 l0 l1 (wrap64 (x9_1 + t718)) l2 (l2.length : Int) (wrap64 (x27_1 + 1)))))) = some (r1, r2) := by rw [if_pos rfl] at H; exact H
           clear H
           have H := H1
           clear H1
           by_cases c16 : (rd l2 x27_1) < ((rd_T24 l0 x27_1).f1)
           ·rw [if_pos c16] at H
            have c16b0 : decide ((rd l2 x27_1) < ((rd_T24 l0 x27_1).f1)) = true := decide_eq_true c16
            clear c16
            simp only [Option.some.injEq, Prod.mk.injEq] at H
            obtain ⟨rfl, rfl⟩ := H
            try go_wp2
            go_ret2
            exact ⟨m_3, m_1⟩
           ·rw [if_neg c16] at H
            have c16b0 : decide ((rd l2 x27_1) < ((rd_T24 l0 x27_1).f1)) = false := decide_eq_false c16
            clear c16
            by_cases c19 : (rd l2 x27_1) > t715
            ·rw [if_pos c19] at H
             have c19b0 : decide (t715 < (rd l2 x27_1)) = true := decide_eq_true c19
             clear c19
             simp only [Option.some.injEq, Prod.mk.injEq] at H
             obtain ⟨rfl, rfl⟩ := H
             try go_wp2
             go_ret2
             exact ⟨m_3, m_1⟩
            ·rw [if_neg c19] at H
             have c19b0 : decide (t715 < (rd l2 x27_1)) = false := decide_eq_false c19
             clear c19
             replace H := Option.bind_eq_some_iff.mp H
             obtain ⟨t718, A220, H⟩ := H
             replace H : (energy_Cost.l0 k1 l0 l1 (wrap64 (x9_1 + t718)) l2 (l2.length : Int) (wrap64 (x27_1 + 1))) = some (r1, r2) := H
             have A22 := Aside0.mk A220
             clear A220
             have H' := Aside0.mk H
             clear H
             have p717 : 0 ≤ (x27_1 : Int) := of_decide_eq_true m_10
             have q717 : x27_1 < (l0.length : Int) := of_decide_eq_true m_10
             obtain ⟨ad717, A717_2, c717_2, e717, hx717_0, hx717_1, hx717_2, hx717_3, hx717_4, hx717_5, hx717_6, hx717_7, hx717_8, hl717_2, hi717_2⟩ := at_T24 HR0.out x27_1 p717 q717
             obtain rfl : ad713 = ad717 := (by injection e717)
             have ea_ := Option.some.inj (hw713_2.symm.trans hx717_2)
             injection ea_ with ea_ en_ ec_
             subst ea_
             subst ec_
             clear en_
             have HR717_2 := Aside0.mk hi717_2
             have HC717_2 := Aside0.mk hl717_2
             clear hi717_2 hl717_2
             try go_wp2_with (first | ((with_reducible refine gate_callee (f := 54) rfl ?_); refine goesL_ (some 62) rfl rfl Try.func54 m_19 rfl #[.slice A713_2 ((rd_T24 l0 x27_1).f2).length c713_2, .int .i64 (rd l2 x27_1)] rfl m_2 ?_; (with_reducible refine (energy_part.calls k1 _ _ ((rd_T24 l0 x27_1).f2) (rd l2 x27_1) t718 _ ?side1 ?side2 A22.out).mono ?_); (case side1 => exact cA_ (Kd.C_below HR717_2.out HB.out)); (case side2 => exact HC717_2.out); rintro e w25 ⟨rfl, hb⟩; refine ⟨_, rfl, ?_⟩; replace HB := Aside0.mk (below_step m_1 hb); clear hb))
             go_roundg k1
             case measure => have := HK1.out; omega
             case rel => exact ⟨(wrap64 (x9_1 + t718)), (wrap64 (x27_1 + 1)), m_14, m_14, H', ⟨m_117⟩, ⟨m_1⟩⟩
          ·replace c15 := Bool.eq_false_iff.mpr c15
           subst c15
           have H1 : (if (rd l2 x27_1) < 0 then (some (0, 3)) else (if (rd l2 x27_1) > 0 then (some (0, 3)) else ((energy_part.f k1 ((rd_T24 l0 x27_1).f2) (rd l2 x27_1)).bind fun t720 => (energy_Cost.l0 k1 l0 l1 (wrap64 (x9_1 + t720)) l2 (l2.length : Int) (wrap64 (x27_1 + 1)))))) = some (r1, r2) := by rw [if_neg (show ¬ (false = true) by decide)] at H; exact H
           clear H
           have H := H1
           clear H1
           by_cases c26 : (rd l2 x27_1) < 0
           ·rw [if_pos c26] at H
            have c26b0 : decide ((rd l2 x27_1) < 0) = true := decide_eq_true c26
            clear c26
            simp only [Option.some.injEq, Prod.mk.injEq] at H
            obtain ⟨rfl, rfl⟩ := H
            try go_wp2
            go_ret2
            exact ⟨m_3, m_1⟩
           ·rw [if_neg c26] at H
            have c26b0 : decide ((rd l2 x27_1) < 0) = false := decide_eq_false c26
            clear c26
            by_cases c29 : (rd l2 x27_1) > 0
            ·rw [if_pos c29] at H
             have c29b0 : decide (0 < (rd l2 x27_1)) = true := decide_eq_true c29
             clear c29
             simp only [Option.some.injEq, Prod.mk.injEq] at H
             obtain ⟨rfl, rfl⟩ := H
             try go_wp2
             go_ret2
             exact ⟨m_3, m_1⟩
            ·rw [if_neg c29] at H
             have c29b0 : decide (0 < (rd l2 x27_1)) = false := decide_eq_false c29
             clear c29
             replace H := Option.bind_eq_some_iff.mp H
             obtain ⟨t720, A320, H⟩ := H
             replace H : (energy_Cost.l0 k1 l0 l1 (wrap64 (x9_1 + t720)) l2 (l2.length : Int) (wrap64 (x27_1 + 1))) = some (r1, r2) := H
             have A32 := Aside0.mk A320
             clear A320
             have H' := Aside0.mk H
             clear H
             have p719 : 0 ≤ (x27_1 : Int) := of_decide_eq_true m_10
             have q719 : x27_1 < (l0.length : Int) := of_decide_eq_true m_10
             obtain ⟨ad719, A719_2, c719_2, e719, hx719_0, hx719_1, hx719_2, hx719_3, hx719_4, hx719_5, hx719_6, hx719_7, hx719_8, hl719_2, hi719_2⟩ := at_T24 HR0.out x27_1 p719 q719
             obtain rfl : ad713 = ad719 := (by injection e719)
             have ea_ := Option.some.inj (hw713_2.symm.trans hx719_2)
             injection ea_ with ea_ en_ ec_
             subst ea_
             subst ec_
             clear en_
             have HR719_2 := Aside0.mk hi719_2
             have HC719_2 := Aside0.mk hl719_2
             clear hi719_2 hl719_2
             try go_wp2_with (first | ((with_reducible refine gate_callee (f := 54) rfl ?_); refine goesL_ (some 62) rfl rfl Try.func54 m_19 rfl #[.slice A713_2 ((rd_T24 l0 x27_1).f2).length c713_2, .int .i64 (rd l2 x27_1)] rfl m_2 ?_; (with_reducible refine (energy_part.calls k1 _ _ ((rd_T24 l0 x27_1).f2) (rd l2 x27_1) t720 _ ?side1 ?side2 A32.out).mono ?_); (case side1 => exact cA_ (Kd.C_below HR719_2.out HB.out)); (case side2 => exact HC719_2.out); rintro e w35 ⟨rfl, hb⟩; refine ⟨_, rfl, ?_⟩; replace HB := Aside0.mk (below_step m_1 hb); clear hb))
             go_roundg k1
             case measure => have := HK1.out; omega
             case rel => exact ⟨(wrap64 (x9_1 + t720)), (wrap64 (x27_1 + 1)), m_14, m_14, H', ⟨m_117⟩, ⟨m_1⟩⟩
         ·rw [if_neg c13] at H
          exact absurd H (by simp)
        ·rw [if_neg c11] at H
         exact absurd H (by simp)
       ·rw [if_neg c10] at H
        exact absurd H (by simp)
      ·rw [if_neg c9] at H
       exact absurd H (by simp)
     ·rw [if_neg c8] at H
      have c8b0 : decide (x27_1 < (l2.length : Int)) = false := decide_eq_false c8
      clear c8
      simp only [Option.some.injEq, Prod.mk.injEq] at H
      obtain ⟨rfl, rfl⟩ := H
      go_wp2
      go_ret2
      exact ⟨m_3, m_1⟩
  ·rw [if_neg c6] at H
   have c6b1 : ((l2.length : Int) != (l0.length : Int)) = true := bne_iff_ne.mpr c6
   simp only [Option.some.injEq, Prod.mk.injEq] at H
   obtain ⟨rfl, rfl⟩ := H
   go_enter Try.func31, Try.ntmps31
   go_wp2_with (first | ((with_reducible refine gate_callee (f := 35) rfl ?_); refine goesL_ (some 16) rfl rfl Try.func35 m_19 rfl #[.slice A0 l0.length c0, .slice A1 l1.length c1] rfl m_2 ?_; (with_reducible refine (energy_Check.calls k _ _ l0 _ _ l1 t711 _ ?side1 ?side2 ?side3 ?side4 A4.out).mono ?_); (case side1 => exact cA_ HR0.out); (case side2 => exact HC0.out); (case side3 => exact cA_ HR1.out); (case side4 => exact HC1.out); rintro e w36 ⟨rfl, hb⟩; refine ⟨_, rfl, ?_⟩; replace HB := Aside0.mk (below_step m_1 hb); clear hb))
   go_ret2
   exact ⟨m_3, m_1⟩
 ·rw [if_neg c5] at H
  have c5b1 : (t711 != 0) = true := bne_iff_ne.mpr c5
  simp only [Option.some.injEq, Prod.mk.injEq] at H
  obtain ⟨rfl, rfl⟩ := H
  go_enter Try.func31, Try.ntmps31
  go_wp2_with (first | ((with_reducible refine gate_callee (f := 35) rfl ?_); refine goesL_ (some 16) rfl rfl Try.func35 m_19 rfl #[.slice A0 l0.length c0, .slice A1 l1.length c1] rfl m_2 ?_; (with_reducible refine (energy_Check.calls k _ _ l0 _ _ l1 t711 _ ?side1 ?side2 ?side3 ?side4 A4.out).mono ?_); (case side1 => exact cA_ HR0.out); (case side2 => exact HC0.out); (case side3 => exact cA_ HR1.out); (case side4 => exact HC1.out); rintro e w37 ⟨rfl, hb⟩; refine ⟨_, rfl, ?_⟩; replace HB := Aside0.mk (below_step m_1 hb); clear hb))
  go_ret2
  exact ⟨m_3, m_1⟩
end Go.Proofs.Ytelklgdmhnkenaa.U
namespace Go.Proofs.Ytelklgdmhnkenaa.U
attribute [local go_sem] max2_int min2_int max_two min_two max_three min_three max_four min_four
def energy_Range.l0 : Nat → List Bool → Int → Int → List (S24) → Int → Int → Option (Int × Int × Int)
 | 0, _, _, _, _, _, _ => none
 | k + 1, x1, x4, x5, x16, x17, x18 => if x18 < x17 then (if 0 ≤ x18 then (if x18 < (x16.length : Int) then (if x18 < (x1.length : Int) then (if rdOf false x1 x18 = true then ((unit_Max.f k ((rd_T24 x16 x18).f0) ((rd_T24 x16 x18).f1) ((rd_T24 x16 x18).f2) ((rd_T24 x16 x18).f3) ((rd_T24 x16 x18).f4) ((rd_T24 x16 x18).f5) ((rd_T24 x16 x18).f6) ((rd_T24 x16 x18).f7) ((rd_T24 x16 x18).f8)).bind fun t725 => (energy_Range.l0 k x1 (wrap64 (x4 + ((rd_T24 x16 x18).f1))) (wrap64 (x5 + t725)) x16 x17 (wrap64 (x18 + 1)))) else (energy_Range.l0 k x1 x4 x5 x16 x17 (wrap64 (x18 + 1)))) else (none)) else (none)) else (none)) else (some (x4, x5, 0))
def energy_Range.f (k : Nat) (l0 : List (S24)) (l1 : List Bool) : Option (Int × Int × Int) := (energy_Check.f k l0 l1).bind fun t721 => (if t721 = 0 then (energy_Range.l0 k l1 0 0 l0 (l0.length : Int) 0) else (some (0, 0, t721)))
set_option maxHeartbeats 8000000 in
set_option maxRecDepth 100000 in
theorem energy_Range.calls (k : Nat) (A0 : Option Addr) (c0 : Nat) (l0 : List (S24)) (A1 : Option Addr) (c1 : Nat) (l1 : List Bool) (r1 : Int) (r2 : Int) (r3 : Int) (w : World) (hr0 : Kd.C k24 w A0 l0.length l0) (hc0 : l0.length ≤ c0) (hr1 : Kd.C Kd.bool w A1 l1.length l1) (hc1 : l1.length ≤ c1) (h : energy_Range.f k l0 l1 = some (r1, r2, r3)) :
  Calls Try.prog 52 #[.slice A0 l0.length c0, .slice A1 l1.length c1] w fun e w' => e = .returned (.tuple #[.int .i64 r1, .int .i64 r2, .int .i64 r3]) ∧ Below w.heap.size w w' := by
 have HR0 := Aside0.mk hr0
 have HC0 := Aside0.mk hc0
 clear hr0 hc0
 have HR1 := Aside0.mk hr1
 have HC1 := Aside0.mk hc1
 clear hr1 hc1
 have HB := Aside0.mk (Below.refl w.heap.size w)
 have H : ((energy_Check.f k l0 l1).bind fun t721 => (if t721 = 0 then (energy_Range.l0 k l1 0 0 l0 (l0.length : Int) 0) else (some (0, 0, t721)))) = some (r1, r2, r3) := h
 clear h
 replace H := Option.bind_eq_some_iff.mp H
 obtain ⟨t721, A30, H⟩ := H
 replace H : (if t721 = 0 then (energy_Range.l0 k l1 0 0 l0 (l0.length : Int) 0) else (some (0, 0, t721))) = some (r1, r2, r3) := H
 have A3 := Aside0.mk A30
 clear A30
 by_cases c4 : t721 = 0
 ·rw [if_pos c4] at H
  have c4b1 : (t721 != 0) = false := bne_eq_false_iff_eq.mpr c4
  clear c4
  have H' := Aside0.mk H
  clear H
  go_enter Try.func52, Try.ntmps52
  go_wp2_with (first | ((with_reducible refine gate_callee (f := 35) rfl ?_); refine goesL_ (some 12) rfl rfl Try.func35 m_19 rfl #[.slice A0 l0.length c0, .slice A1 l1.length c1] rfl m_2 ?_; (with_reducible refine (energy_Check.calls k _ _ l0 _ _ l1 t721 _ ?side1 ?side2 ?side3 ?side4 A3.out).mono ?_); (case side1 => exact cA_ HR0.out); (case side2 => exact HC0.out); (case side3 => exact cA_ HR1.out); (case side4 => exact HC1.out); rintro e w5 ⟨rfl, hb⟩; refine ⟨_, rfl, ?_⟩; replace HB := Aside0.mk (below_step m_1 hb); clear hb))
  go_loopg [4, 5, 18] k (fun kq v4 v5 v18 w' => ∃ (x4_1 : Int) (x5_1 : Int) (x18_1 : Int), v4 = .int .i64 x4_1 ∧ v5 = .int .i64 x5_1 ∧ v18 = .int .i64 x18_1 ∧ Aside0 (energy_Range.l0 kq l1 x4_1 x5_1 l0 (l0.length : Int) x18_1 = some (r1, r2, r3)) ∧ Aside0 (kq ≤ k) ∧ Aside0 (Below w.heap.size w w'))
  case atStart => exact ⟨(0), (0), (0), m_14, m_14, m_14, H', ⟨Nat.le_refl _⟩, ⟨m_1⟩⟩
  case round =>
   clear H'
   (try clear c1); (try clear p2); (try clear c3); (try clear c4); (try skip); (try clear c4b1); (try clear c5)
   obtain ⟨x4_1, x5_1, x18_1, rfl, rfl, rfl, HA, HK1, HB⟩ := hrel
   cases gk with
   | zero => exact absurd HA.out (by simp [energy_Range.l0])
   | succ k1 =>
    have H := HA.out
    clear HA
    simp only [energy_Range.l0] at H
    by_cases c6 : x18_1 < (l0.length : Int)
    ·rw [if_pos c6] at H
     clear c6
     by_cases c7 : 0 ≤ x18_1
     ·rw [if_pos c7] at H
      have c7b0 : decide (0 ≤ x18_1) = true := decide_eq_true c7
      clear c7
      by_cases c8 : x18_1 < (l0.length : Int)
      ·rw [if_pos c8] at H
       have c8b0 : decide (x18_1 < (l0.length : Int)) = true := decide_eq_true c8
       clear c8
       by_cases c9 : x18_1 < (l1.length : Int)
       ·rw [if_pos c9] at H
        have c9b0 : decide (x18_1 < (l1.length : Int)) = true := decide_eq_true c9
        clear c9
        obtain ⟨bq10, hbq10⟩ : ∃ b_ : Bool, b_ = (rdOf false l1 x18_1) := ⟨_, rfl⟩
        replace H : (if bq10 = true then ((unit_Max.f k1 ((rd_T24 l0 x18_1).f0) ((rd_T24 l0 x18_1).f1) ((rd_T24 l0 x18_1).f2) ((rd_T24 l0 x18_1).f3) ((rd_T24 l0 x18_1).f4) ((rd_T24 l0 x18_1).f5) ((rd_T24 l0 x18_1).f6) ((rd_T24 l0 x18_1).f7) ((rd_T24 l0 x18_1).f8)).bind fun t725 => (energy_Range.l0 k1 l1 (wrap64 (x4_1 + ((rd_T24 l0 x18_1).f1))) (wrap64 (x5_1 + t725)) l0 (l0.length : Int) (wrap64 (x18_1 + 1)))) else (energy_Range.l0 k1 l1 x4_1 x5_1 l0 (l0.length : Int) (wrap64 (x18_1 + 1)))) = some (r1, r2, r3) := by rw [← hbq10] at H; exact H
        have Nbq10 := Aside0.mk hbq10
        clear hbq10
        by_cases c11 : bq10 = true
        ·subst c11
         have H1 : ((unit_Max.f k1 ((rd_T24 l0 x18_1).f0) ((rd_T24 l0 x18_1).f1) ((rd_T24 l0 x18_1).f2) ((rd_T24 l0 x18_1).f3) ((rd_T24 l0 x18_1).f4) ((rd_T24 l0 x18_1).f5) ((rd_T24 l0 x18_1).f6) ((rd_T24 l0 x18_1).f7) ((rd_T24 l0 x18_1).f8)).bind fun t725 => (energy_Range.l0 k1 l1 (wrap64 (x4_1 + ((rd_T24 l0 x18_1).f1))) (wrap64 (x5_1 + t725)) l0 (l0.length : Int) (wrap64 (x18_1 + 1)))) = some (r1, r2, r3) := by rw [if_pos rfl] at H; exact H
         clear H
         have H := H1
         clear H1
         replace H := Option.bind_eq_some_iff.mp H
         obtain ⟨t725, A120, H⟩ := H
         replace H : (energy_Range.l0 k1 l1 (wrap64 (x4_1 + ((rd_T24 l0 x18_1).f1))) (wrap64 (x5_1 + t725)) l0 (l0.length : Int) (wrap64 (x18_1 + 1))) = some (r1, r2, r3) := H
         have A12 := Aside0.mk A120
         clear A120
         have H' := Aside0.mk H
         clear H
         have p722 : 0 ≤ (x18_1 : Int) := of_decide_eq_true m_10
         have q722 : x18_1 < (l0.length : Int) := of_decide_eq_true m_10
         obtain ⟨ad722, A722_2, c722_2, e722, hx722_0, hx722_1, hx722_2, hx722_3, hx722_4, hx722_5, hx722_6, hx722_7, hx722_8, hl722_2, hi722_2⟩ := at_T24 HR0.out x18_1 p722 q722
         cases e722
         replace hx722_0 := mv_ HB hx722_0
         replace hx722_1 := mv_ HB hx722_1
         replace hx722_2 := mv_ HB hx722_2
         replace hx722_3 := mv_ HB hx722_3
         replace hx722_4 := mv_ HB hx722_4
         replace hx722_5 := mv_ HB hx722_5
         replace hx722_6 := mv_ HB hx722_6
         replace hx722_7 := mv_ HB hx722_7
         replace hx722_8 := mv_ HB hx722_8
         have HR722_2 := Aside0.mk hi722_2
         have HC722_2 := Aside0.mk hl722_2
         clear hi722_2 hl722_2
         replace p722 := eq_true p722
         replace q722 := eq_true q722
         go_wp2_with (first | ((with_reducible refine gate_dst (N := 9) rfl ?_); refine box_event ?hg (N := 9) ?hd (cs := #[.int .i64 0, .int .i64 0, .slice none 0 0, .int .i64 0, .int .i64 0, .int .i64 0, .int .i64 0, .int .i64 0, .int .i64 0]) (t := 24) ?hr ?_; (case hd => rfl); (case hg => rfl); (case hr => exact hr_); intro gb723 hg w13 hbox hb; have BK723 := Aside0.mk (hbox); have GW723 := gW_ (w := w) hg m_1; have GE723 := gW_ (w := w) hg m_1; replace HB := Aside0.mk (below_step m_1 hb); clear hb hbox hg; obtain ⟨hcz14_0, hcz14_1, hcz14_2, hcz14_3, hcz14_4, hcz14_5, hcz14_6, hcz14_7, hcz14_8, hfz14_0, hfz14_1, hfz14_2, hfz14_3, hfz14_4, hfz14_5, hfz14_6, hfz14_7, hfz14_8⟩ := cf9_ BK723; have p724 : 0 ≤ (x18_1 : Int) := of_decide_eq_true m_10; have q724 : x18_1 < (l1.length : Int) := of_decide_eq_true m_10; obtain ⟨ad724, e724, hx724_0⟩ := Kd.at_bool HR1.out x18_1 p724 q724; (try rw [← Nbq10.out] at hx724_0); cases e724; have hn724_0 : ad724.block ≠ gb723 := Nat.ne_of_lt (Nat.lt_of_lt_of_le m_34 GW723.out); have hn724_1 : ad724.block ≠ gb723 := Nat.ne_of_lt (Nat.lt_of_lt_of_le m_34 GW723.out); have hn724_2 : ad724.block ≠ gb723 := Nat.ne_of_lt (Nat.lt_of_lt_of_le m_34 GW723.out); have hn724_3 : ad724.block ≠ gb723 := Nat.ne_of_lt (Nat.lt_of_lt_of_le m_34 GW723.out); have hn724_4 : ad724.block ≠ gb723 := Nat.ne_of_lt (Nat.lt_of_lt_of_le m_34 GW723.out); have hn724_5 : ad724.block ≠ gb723 := Nat.ne_of_lt (Nat.lt_of_lt_of_le m_34 GW723.out); have hn724_6 : ad724.block ≠ gb723 := Nat.ne_of_lt (Nat.lt_of_lt_of_le m_34 GW723.out); have hn724_7 : ad724.block ≠ gb723 := Nat.ne_of_lt (Nat.lt_of_lt_of_le m_34 GW723.out); have hn724_8 : ad724.block ≠ gb723 := Nat.ne_of_lt (Nat.lt_of_lt_of_le m_34 GW723.out); replace hx724_0 := mv_ HB hx724_0; replace hx724_0 := (cell_far (p := ⟨gb723, 0, none⟩) m_142 (.int .i64 ((rd_T24 l0 x18_1).f0))).trans hx724_0; replace hx724_0 := (cell_far (p := ⟨gb723, 1, none⟩) m_141 (.int .i64 ((rd_T24 l0 x18_1).f1))).trans hx724_0; replace hx724_0 := (cell_far (p := ⟨gb723, 2, none⟩) m_140 (.slice A722_2 ((rd_T24 l0 x18_1).f2).length c722_2)).trans hx724_0; replace hx724_0 := (cell_far (p := ⟨gb723, 3, none⟩) m_139 (.int .i64 ((rd_T24 l0 x18_1).f3))).trans hx724_0; replace hx724_0 := (cell_far (p := ⟨gb723, 4, none⟩) m_138 (.int .i64 ((rd_T24 l0 x18_1).f4))).trans hx724_0; replace hx724_0 := (cell_far (p := ⟨gb723, 5, none⟩) m_137 (.int .i64 ((rd_T24 l0 x18_1).f5))).trans hx724_0; replace hx724_0 := (cell_far (p := ⟨gb723, 6, none⟩) m_136 (.int .i64 ((rd_T24 l0 x18_1).f6))).trans hx724_0; replace hx724_0 := (cell_far (p := ⟨gb723, 7, none⟩) m_135 (.int .i64 ((rd_T24 l0 x18_1).f7))).trans hx724_0; replace hx724_0 := (cell_far (p := ⟨gb723, 8, none⟩) m_134 (.int .i64 ((rd_T24 l0 x18_1).f8))).trans hx724_0; clear hn724_0; clear hn724_1; clear hn724_2; clear hn724_3; clear hn724_4; clear hn724_5; clear hn724_6; clear hn724_7; clear hn724_8; replace q724 := eq_true q724) | ((with_reducible refine gate_callee (f := 37) rfl ?_); refine goesL_ (some 33) rfl rfl Try.func37 m_19 rfl #[.agg #[.int .i64 ((rd_T24 l0 x18_1).f0), .int .i64 ((rd_T24 l0 x18_1).f1), .slice A722_2 ((rd_T24 l0 x18_1).f2).length c722_2, .int .i64 ((rd_T24 l0 x18_1).f3), .int .i64 ((rd_T24 l0 x18_1).f4), .int .i64 ((rd_T24 l0 x18_1).f5), .int .i64 ((rd_T24 l0 x18_1).f6), .int .i64 ((rd_T24 l0 x18_1).f7), .int .i64 ((rd_T24 l0 x18_1).f8)]] rfl m_2 ?_; (with_reducible refine (unit_Max.calls k1 ((rd_T24 l0 x18_1).f0) ((rd_T24 l0 x18_1).f1) _ _ ((rd_T24 l0 x18_1).f2) ((rd_T24 l0 x18_1).f3) ((rd_T24 l0 x18_1).f4) ((rd_T24 l0 x18_1).f5) ((rd_T24 l0 x18_1).f6) ((rd_T24 l0 x18_1).f7) ((rd_T24 l0 x18_1).f8) t725 _ ?side1 ?side2 A12.out).mono ?_); (case side1 => exact Kd.C_below HR722_2.out m_73); (case side2 => exact HC722_2.out); rintro e w15 ⟨rfl, hb⟩; refine ⟨_, rfl, ?_⟩; replace HB := Aside0.mk (below_step m_73 hb); clear hb))
         go_roundg k1
         case measure => have := HK1.out; omega
         case rel => exact ⟨(wrap64 (x4_1 + ((rd_T24 l0 x18_1).f1))), (wrap64 (x5_1 + t725)), (wrap64 (x18_1 + 1)), m_14, m_14, m_14, H', ⟨m_117⟩, ⟨m_73⟩⟩
        ·replace c11 := Bool.eq_false_iff.mpr c11
         subst c11
         have H1 : (energy_Range.l0 k1 l1 x4_1 x5_1 l0 (l0.length : Int) (wrap64 (x18_1 + 1))) = some (r1, r2, r3) := by rw [if_neg (show ¬ (false = true) by decide)] at H; exact H
         clear H
         have H := H1
         clear H1
         have H' := Aside0.mk H
         clear H
         have p722 : 0 ≤ (x18_1 : Int) := of_decide_eq_true m_10
         have q722 : x18_1 < (l0.length : Int) := of_decide_eq_true m_10
         obtain ⟨ad722, A722_2, c722_2, e722, hx722_0, hx722_1, hx722_2, hx722_3, hx722_4, hx722_5, hx722_6, hx722_7, hx722_8, hl722_2, hi722_2⟩ := at_T24 HR0.out x18_1 p722 q722
         cases e722
         replace hx722_0 := mv_ HB hx722_0
         replace hx722_1 := mv_ HB hx722_1
         replace hx722_2 := mv_ HB hx722_2
         replace hx722_3 := mv_ HB hx722_3
         replace hx722_4 := mv_ HB hx722_4
         replace hx722_5 := mv_ HB hx722_5
         replace hx722_6 := mv_ HB hx722_6
         replace hx722_7 := mv_ HB hx722_7
         replace hx722_8 := mv_ HB hx722_8
         clear hi722_2 hl722_2
         replace p722 := eq_true p722
         replace q722 := eq_true q722
         go_wp2_with (first | ((with_reducible refine gate_dst (N := 9) rfl ?_); refine box_event ?hg (N := 9) ?hd (cs := #[.int .i64 0, .int .i64 0, .slice none 0 0, .int .i64 0, .int .i64 0, .int .i64 0, .int .i64 0, .int .i64 0, .int .i64 0]) (t := 24) ?hr ?_; (case hd => rfl); (case hg => rfl); (case hr => exact hr_); intro gb723 hg w16 hbox hb; have BK723 := Aside0.mk (hbox); have GW723 := gW_ (w := w) hg m_1; have GE723 := gW_ (w := w) hg m_1; replace HB := Aside0.mk (below_step m_1 hb); clear hb hbox hg; obtain ⟨hcz17_0, hcz17_1, hcz17_2, hcz17_3, hcz17_4, hcz17_5, hcz17_6, hcz17_7, hcz17_8, hfz17_0, hfz17_1, hfz17_2, hfz17_3, hfz17_4, hfz17_5, hfz17_6, hfz17_7, hfz17_8⟩ := cf9_ BK723; have p724 : 0 ≤ (x18_1 : Int) := of_decide_eq_true m_10; have q724 : x18_1 < (l1.length : Int) := of_decide_eq_true m_10; obtain ⟨ad724, e724, hx724_0⟩ := Kd.at_bool HR1.out x18_1 p724 q724; (try rw [← Nbq10.out] at hx724_0); cases e724; have hn724_0 : ad724.block ≠ gb723 := Nat.ne_of_lt (Nat.lt_of_lt_of_le m_34 GW723.out); have hn724_1 : ad724.block ≠ gb723 := Nat.ne_of_lt (Nat.lt_of_lt_of_le m_34 GW723.out); have hn724_2 : ad724.block ≠ gb723 := Nat.ne_of_lt (Nat.lt_of_lt_of_le m_34 GW723.out); have hn724_3 : ad724.block ≠ gb723 := Nat.ne_of_lt (Nat.lt_of_lt_of_le m_34 GW723.out); have hn724_4 : ad724.block ≠ gb723 := Nat.ne_of_lt (Nat.lt_of_lt_of_le m_34 GW723.out); have hn724_5 : ad724.block ≠ gb723 := Nat.ne_of_lt (Nat.lt_of_lt_of_le m_34 GW723.out); have hn724_6 : ad724.block ≠ gb723 := Nat.ne_of_lt (Nat.lt_of_lt_of_le m_34 GW723.out); have hn724_7 : ad724.block ≠ gb723 := Nat.ne_of_lt (Nat.lt_of_lt_of_le m_34 GW723.out); have hn724_8 : ad724.block ≠ gb723 := Nat.ne_of_lt (Nat.lt_of_lt_of_le m_34 GW723.out); replace hx724_0 := mv_ HB hx724_0; replace hx724_0 := (cell_far (p := ⟨gb723, 0, none⟩) m_142 (.int .i64 ((rd_T24 l0 x18_1).f0))).trans hx724_0; replace hx724_0 := (cell_far (p := ⟨gb723, 1, none⟩) m_141 (.int .i64 ((rd_T24 l0 x18_1).f1))).trans hx724_0; replace hx724_0 := (cell_far (p := ⟨gb723, 2, none⟩) m_140 (.slice A722_2 ((rd_T24 l0 x18_1).f2).length c722_2)).trans hx724_0; replace hx724_0 := (cell_far (p := ⟨gb723, 3, none⟩) m_139 (.int .i64 ((rd_T24 l0 x18_1).f3))).trans hx724_0; replace hx724_0 := (cell_far (p := ⟨gb723, 4, none⟩) m_138 (.int .i64 ((rd_T24 l0 x18_1).f4))).trans hx724_0; replace hx724_0 := (cell_far (p := ⟨gb723, 5, none⟩) m_137 (.int .i64 ((rd_T24 l0 x18_1).f5))).trans hx724_0; replace hx724_0 := (cell_far (p := ⟨gb723, 6, none⟩) m_136 (.int .i64 ((rd_T24 l0 x18_1).f6))).trans hx724_0; replace hx724_0 := (cell_far (p := ⟨gb723, 7, none⟩) m_135 (.int .i64 ((rd_T24 l0 x18_1).f7))).trans hx724_0; replace hx724_0 := (cell_far (p := ⟨gb723, 8, none⟩) m_134 (.int .i64 ((rd_T24 l0 x18_1).f8))).trans hx724_0; clear hn724_0; clear hn724_1; clear hn724_2; clear hn724_3; clear hn724_4; clear hn724_5; clear hn724_6; clear hn724_7; clear hn724_8; replace q724 := eq_true q724))
         go_roundg k1
         case measure => have := HK1.out; omega
         case rel => exact ⟨(x4_1), (x5_1), (wrap64 (x18_1 + 1)), m_14, m_14, m_14, H', ⟨m_117⟩, ⟨m_73⟩⟩
       ·rw [if_neg c9] at H
        exact absurd H (by simp)
      ·rw [if_neg c8] at H
       exact absurd H (by simp)
     ·rw [if_neg c7] at H
      exact absurd H (by simp)
    ·rw [if_neg c6] at H
     have c6b0 : decide (x18_1 < (l0.length : Int)) = false := decide_eq_false c6
     clear c6
     simp only [Option.some.injEq, Prod.mk.injEq] at H
     obtain ⟨rfl, rfl, rfl⟩ := H
     go_wp2
     go_ret3
     exact ⟨m_3, m_1⟩
 ·rw [if_neg c4] at H
  have c4b1 : (t721 != 0) = true := bne_iff_ne.mpr c4
  simp only [Option.some.injEq, Prod.mk.injEq] at H
  obtain ⟨rfl, rfl, rfl⟩ := H
  go_enter Try.func52, Try.ntmps52
  go_wp2_with (first | ((with_reducible refine gate_callee (f := 35) rfl ?_); refine goesL_ (some 12) rfl rfl Try.func35 m_19 rfl #[.slice A0 l0.length c0, .slice A1 l1.length c1] rfl m_2 ?_; (with_reducible refine (energy_Check.calls k _ _ l0 _ _ l1 t721 _ ?side1 ?side2 ?side3 ?side4 A3.out).mono ?_); (case side1 => exact cA_ HR0.out); (case side2 => exact HC0.out); (case side3 => exact cA_ HR1.out); (case side4 => exact HC1.out); rintro e w18 ⟨rfl, hb⟩; refine ⟨_, rfl, ?_⟩; replace HB := Aside0.mk (below_step m_1 hb); clear hb))
  go_ret3
  exact ⟨m_3, m_1⟩
theorem int64_z {x : Int} (h : sm x) : int64F (zS x) (zW x) = (x, true) := by
  unfold sm at h
  unfold int64F zW
  by_cases hx : x = 0
  · subst hx
    simp [numF, zS, u64Of, prs, wrap64]
  · rw [if_neg hx]
    by_cases h2 : x.natAbs < 4294967296
    · rw [if_pos h2, if_neg (by simp), if_pos (by simp)]
      have e : u64Of (prs [(x.natAbs : Int)] [] (max [(x.natAbs : Int)].length ([] : List Int).length)) = x.natAbs * 4294967296 := by
        simp [u64Of, prs, pairAt, u64_eq, List.range_succ]
        omega
      rw [e, Int.mul_ediv_cancel _ (by decide)]
      unfold numF zS
      by_cases hn : x < 0
      · rw [if_pos (decide_eq_true hn), if_pos (by omega), wrap64_id (x := (x.natAbs : Int)) (by omega) (by omega), wrap64_id (by omega) (by omega)]
        congr 1
        omega
      · rw [if_neg (by simpa using hn), wrap64_id (x := (x.natAbs : Int)) (by omega) (by omega), if_pos (by omega)]
        congr 1
        omega
    · rw [if_neg h2, if_neg (by simp), if_neg (by simp)]
      have e : u64Of (prs [(x.natAbs : Int) % 4294967296, (x.natAbs : Int) / 4294967296] [] (max [(x.natAbs : Int) % 4294967296, (x.natAbs : Int) / 4294967296].length ([] : List Int).length)) = x.natAbs := by
        simp [u64Of, prs, pairAt, u64_eq, List.range_succ]
        omega
      rw [e]
      unfold numF zS
      by_cases hn : x < 0
      · rw [if_pos (decide_eq_true hn), if_pos (by omega), wrap64_id (x := (x.natAbs : Int)) (by omega) (by omega), wrap64_id (by omega) (by omega)]
        congr 1
        omega
      · rw [if_neg (by simpa using hn), wrap64_id (x := (x.natAbs : Int)) (by omega) (by omega), if_pos (by omega)]
        congr 1
        omega
theorem part_f {l : List S99} {q : Int} (hc : curveF l = 0) (h0 : 0 ≤ q) (h1 : q ≤ qsum l) : Evs (fun k => energy_part.f k l q) (partF l q) := by
  obtain ⟨h3, h4, hx⟩ := curve_ok hc
  have hb := qsum_bound hx
  have hp := partF_bnd l q hx h0
  unfold energy_part.f
  rw [from_s (by unfold sm; omega)]
  simp only [Option.bind_some]
  refine (step_cost_f hc h0 h1).bind ?_
  have hs : sm (partF l q) := by unfold sm; omega
  have e : whole_Int64.f (zS (partF l q)) (zW (partF l q)) = some (partF l q, true) := by
    unfold whole_Int64.f
    have hcw := cW_z (partF l q) (sm_a hs)
    rw [if_pos (by have := cW_len hcw; omega), trimF_c hcw, int64_z hs]
  simp only [e, Option.bind_some]
  exact Evs.const rfl
def ckU (u : S24) : Int := checkF u.f0 u.f1 u.f2 u.f3 u.f4 u.f5 u.f6 u.f7 u.f8 6
def chk : List S24 → Int
  | [] => 0
  | u :: l => if ckU u = 0 then chk l else ckU u
def ckF (l0 : List S24) (l1 : List Bool) : Int := if 5 < l0.length then 5 else if chk l0 = 0 then (if l1.length = l0.length then 0 else 3) else chk l0
theorem rd24 (l : List S24) (k : Nat) (h : k < l.length) : rd_T24 l (k : Int) = l[k] := by simp [rd_T24, h]
theorem check_loop (l0 : List S24) (l1 : List Bool) (hl : l0.length ≤ 5) (d : Nat) : ∀ i : Nat, l0.length - i = d → i ≤ l0.length →
    Evs (fun k => energy_Check.l0 k l0 l1 l0 (l0.length : Int) (i : Int)) (if chk (l0.drop i) = 0 then (if l1.length = l0.length then 0 else 3) else chk (l0.drop i)) := by
  induction d with
  | zero =>
    intro i hd hi
    obtain rfl : i = l0.length := by omega
    refine Evs.succ (Evs.all fun k => ?_)
    simp only [energy_Check.l0]
    rw [if_neg (by omega)]
    simp only [List.drop_length, chk, if_true]
    by_cases e : l1.length = l0.length
    · rw [if_pos e, if_pos (by omega)]
    · rw [if_neg e, if_neg (by omega)]
  | succ d ih =>
    intro i hd hi
    have hlt : i < l0.length := by omega
    have e1 := rd24 l0 i hlt
    have hd2 : l0.drop i = l0[i] :: l0.drop (i + 1) := List.drop_eq_getElem_cons hlt
    generalize l0[i] = u at e1 hd2
    have h := ih (i + 1) (by omega) (by omega)
    refine Evs.succ ?_
    simp only [energy_Check.l0, if_pos (show (i : Int) < (l0.length : Int) by omega), if_pos (show (0 : Int) ≤ (i : Int) by omega), e1]
    refine (check_f u.f0 u.f1 u.f2 u.f3 u.f4 u.f5 u.f6 u.f7 u.f8 6).bind ?_
    rw [hd2, chk]
    by_cases hu : ckU u = 0
    · simp only [if_pos hu, if_pos (show checkF u.f0 u.f1 u.f2 u.f3 u.f4 u.f5 u.f6 u.f7 u.f8 6 = 0 from hu), wrap_id (show -9223372036854775808 ≤ (i : Int) + 1 by omega) (show (i : Int) + 1 ≤ 9223372036854775807 by omega), show (i : Int) + 1 = ((i + 1 : Nat) : Int) by omega]
      rw [show (wrap64 ((i + 1 : Nat) : Int)) = ((i + 1 : Nat) : Int) from wrap_id (by omega) (by omega)]
      exact h
    · simp only [if_neg hu, if_neg (show ¬ checkF u.f0 u.f1 u.f2 u.f3 u.f4 u.f5 u.f6 u.f7 u.f8 6 = 0 from hu)]
      exact Evs.const rfl
theorem Check_f (l0 : List S24) (l1 : List Bool) : Evs (fun k => energy_Check.f k l0 l1) (ckF l0 l1) := by
  unfold energy_Check.f ckF
  by_cases h : 5 < l0.length
  · simp only [if_pos h, if_pos (show (l0.length : Int) > 5 by omega)]
    exact Evs.const rfl
  · simp only [if_neg h, if_neg (show ¬ (l0.length : Int) > 5 by omega)]
    have := check_loop l0 l1 (by omega) l0.length 0 (by omega) (by omega)
    rw [List.drop_zero] at this
    exact this
structure OkU (u : S24) : Prop where
  up : wrongF true u.f2 = 0
  min0 : 0 ≤ u.f1
  min1 : u.f1 ≤ qsum u.f2
def leastF : List S24 → List Bool → Int
  | u :: us, b :: bs => (if b then u.f1 else 0) + leastF us bs
  | _, _ => 0
def mostF : List S24 → List Bool → Int
  | u :: us, b :: bs => (if b then qsum u.f2 else 0) + mostF us bs
  | _, _ => 0
theorem okU_bnd {u : S24} (h : OkU u) : curveF u.f2 = 0 ∧ u.f2.length ≤ 3 ∧ okL u.f2 ∧ 0 ≤ qsum u.f2 ∧ qsum u.f2 ≤ 3000000 ∧ maxF u.f2 = qsum u.f2 := by
  have hw := wrongF_ok h.up
  have hb := qsum_bound hw.2.2
  refine ⟨?_, hw.1, hw.2.2, hb.1, by omega, by unfold maxF; rw [if_pos h.up]⟩
  unfold curveF
  by_cases e : wrongF false u.f2 = 0
  · rw [if_pos e]
  · rw [if_neg e]; exact h.up
theorem lm_bnd : ∀ (l0 : List S24) (l1 : List Bool), (∀ u ∈ l0, OkU u) → 0 ≤ leastF l0 l1 ∧ leastF l0 l1 ≤ mostF l0 l1 ∧ mostF l0 l1 ≤ 3000000 * (l0.length : Int)
  | [], _, _ => by simp [leastF, mostF]
  | _ :: _, [], _ => by simp [leastF, mostF]; omega
  | u :: us, b :: bs, h => by
    have hu := h u List.mem_cons_self
    have hb := okU_bnd hu
    have ih := lm_bnd us bs (fun x hx => h x (List.mem_cons_of_mem _ hx))
    have h1 := hu.min0
    have h2 := hu.min1
    rw [leastF, mostF, List.length_cons]
    cases b
    · simp; omega
    · simp; omega
theorem range_loop (l0 : List S24) (l1 : List Bool) (hl : l0.length ≤ 5) (h1 : l1.length = l0.length) (ho : ∀ u ∈ l0, OkU u) (d : Nat) : ∀ (i : Nat) (a b : Int), l0.length - i = d → i ≤ l0.length → 0 ≤ a → a ≤ 3000000 * (i : Int) → 0 ≤ b → b ≤ 3000000 * (i : Int) →
    Evs (fun k => energy_Range.l0 k l1 a b l0 (l0.length : Int) (i : Int)) (a + leastF (l0.drop i) (l1.drop i), b + mostF (l0.drop i) (l1.drop i), 0) := by
  induction d with
  | zero =>
    intro i a b hd hi _ _ _ _
    obtain rfl : i = l0.length := by omega
    refine Evs.succ (Evs.all fun k => ?_)
    simp only [energy_Range.l0]
    rw [if_neg (by omega)]
    simp [leastF, mostF]
  | succ d ih =>
    intro i a b hd hi ha0 ha1 hb0 hb1
    have hlt : i < l0.length := by omega
    have e1 := rd24 l0 i hlt
    have hd2 : l0.drop i = l0[i] :: l0.drop (i + 1) := List.drop_eq_getElem_cons hlt
    have hu := ho l0[i] (List.getElem_mem hlt)
    generalize l0[i] = u at e1 hd2 hu
    have hlt1 : i < l1.length := by omega
    have hd3 : l1.drop i = l1[i] :: l1.drop (i + 1) := List.drop_eq_getElem_cons hlt1
    have e2 : rdOf false l1 (i : Int) = l1[i] := by simp [rdOf, hlt1]
    generalize l1[i] = c at e2 hd3
    have hub := okU_bnd hu
    have hm0 := hu.min0
    have hm1 := hu.min1
    rw [hd2, hd3, leastF, mostF]
    refine Evs.succ ?_
    simp only [energy_Range.l0, if_pos (show (i : Int) < (l0.length : Int) by omega), if_pos (show (0 : Int) ≤ (i : Int) by omega), if_pos (show (i : Int) < (l1.length : Int) by omega), e1, e2, wrap_id (show -9223372036854775808 ≤ (i : Int) + 1 by omega) (show (i : Int) + 1 ≤ 9223372036854775807 by omega)]
    cases c with
    | false =>
      have h := ih (i + 1) a b (by omega) (by omega) ha0 (by omega) hb0 (by omega)
      simp only [if_neg (show ¬ (false = true) by decide)]
      rw [Int.zero_add, Int.zero_add]
      exact h
    | true =>
      have h := ih (i + 1) (a + u.f1) (b + qsum u.f2) (by omega) (by omega) (by omega) (by omega) (by omega) (by omega)
      simp only [if_true]
      refine (max_f u.f0 u.f1 u.f2 u.f3 u.f4 u.f5 u.f6 u.f7 u.f8).bind ?_
      rw [hub.2.2.2.2.2, wrap_id (by omega) (by omega), wrap_id (by omega) (by omega), ← Int.add_assoc, ← Int.add_assoc]
      exact h
end Go.Proofs.Ytelklgdmhnkenaa.U
namespace Go.Proofs.Ytelklgdmhnkenaa.U
attribute [local go_sem] max2_int min2_int max_two min_two max_three min_three max_four min_four
def cmp_Or_int.l0 : Nat → Int → List Int → Int → Int → Option (Int)
 | 0, _, _, _, _ => none
 | k + 1, x3, x6, x7, x8 => if x8 < x7 then (if 0 ≤ x8 then (if x8 < (x6.length : Int) then (if (rd x6 x8) = x3 then (cmp_Or_int.l0 k x3 x6 x7 (wrap64 (x8 + 1))) else (some (rd x6 x8))) else (none)) else (none)) else (some x3)
def cmp_Or_int.f (k : Nat) (l0 : List Int) : Option (Int) := cmp_Or_int.l0 k 0 l0 (l0.length : Int) 0
set_option maxHeartbeats 8000000 in
set_option maxRecDepth 100000 in
theorem cmp_Or_int.calls (k : Nat) (A0 : Option Addr) (c0 : Nat) (l0 : List Int) (r : Int) (w : World) (hr0 : Kd.C (Kd.int .i64) w A0 l0.length l0) (hc0 : l0.length ≤ c0) (h : cmp_Or_int.f k l0 = some r) :
  Calls Try.prog 71 #[.slice A0 l0.length c0] w fun e w' => e = .returned (.int .i64 r) ∧ Drawn0 w w' := by
 have HR0 := Aside0.mk hr0
 clear hr0 hc0
 have H : (cmp_Or_int.l0 k 0 l0 (l0.length : Int) 0) = some r := h
 clear h
 have H' := Aside0.mk H
 clear H
 go_enter Try.func71, Try.ntmps71
 go_wp2
 go_loopg [8] k (fun kq v8 w' => ∃ (x8_1 : Int), v8 = .int .i64 x8_1 ∧ Aside0 (cmp_Or_int.l0 kq 0 l0 (l0.length : Int) x8_1 = some r) ∧ Aside0 (kq ≤ k) ∧ Drawn0 w w')
 case atStart => exact ⟨(0), m_14, H', ⟨Nat.le_refl _⟩, m_28⟩
 case round =>
  clear H'
  obtain ⟨x8_1, rfl, HA, HK1, ⟨m1, rfl⟩⟩ := hrel
  cases gk with
  | zero => exact absurd HA.out (by simp [cmp_Or_int.l0])
  | succ k1 =>
   have H := HA.out
   clear HA
   simp only [cmp_Or_int.l0] at H
   by_cases c2 : x8_1 < (l0.length : Int)
   ·rw [if_pos c2] at H
    clear c2
    by_cases c3 : 0 ≤ x8_1
    ·rw [if_pos c3] at H
     have c3b0 : decide (0 ≤ x8_1) = true := decide_eq_true c3
     clear c3
     by_cases c4 : x8_1 < (l0.length : Int)
     ·rw [if_pos c4] at H
      have c4b0 : decide (x8_1 < (l0.length : Int)) = true := decide_eq_true c4
      clear c4
      by_cases c5 : (rd l0 x8_1) = 0
      ·rw [if_pos c5] at H
       have c5b1 : ((rd l0 x8_1) != 0) = false := bne_eq_false_iff_eq.mpr c5
       clear c5
       have H' := Aside0.mk H
       clear H
       have p101 : 0 ≤ (x8_1 : Int) := of_decide_eq_true m_10
       have q101 : x8_1 < (l0.length : Int) := of_decide_eq_true m_10
       obtain ⟨ad101, e101, hx101_0⟩ := Kd.at_int HR0.out x8_1 p101 q101
       cases e101
       replace p101 := eq_true p101
       replace q101 := eq_true q101
       go_wp2
       go_roundg k1
       case measure => have := HK1.out; omega
       case rel => exact ⟨(wrap64 (x8_1 + 1)), m_14, H', ⟨m_117⟩, m_28⟩
      ·rw [if_neg c5] at H
       have c5b1 : ((rd l0 x8_1) != 0) = true := bne_iff_ne.mpr c5
       obtain rfl := Option.some.inj H
       have p101 : 0 ≤ (x8_1 : Int) := of_decide_eq_true m_10
       have q101 : x8_1 < (l0.length : Int) := of_decide_eq_true m_10
       obtain ⟨ad101, e101, hx101_0⟩ := Kd.at_int HR0.out x8_1 p101 q101
       cases e101
       replace p101 := eq_true p101
       replace q101 := eq_true q101
       go_wp2
       go_ret
       exact ⟨m_14, m_28⟩
     ·rw [if_neg c4] at H
      exact absurd H (by simp)
    ·rw [if_neg c3] at H
     exact absurd H (by simp)
   ·rw [if_neg c2] at H
    have c2b0 : decide (x8_1 < (l0.length : Int)) = false := decide_eq_false c2
    clear c2
    obtain rfl := Option.some.inj H
    go_wp2
    go_ret
    exact ⟨m_14, m_28⟩
end Go.Proofs.Ytelklgdmhnkenaa.U
namespace Go.Proofs.Ytelklgdmhnkenaa.U
attribute [local go_sem] max2_int min2_int max_two min_two max_three min_three max_four min_four
def cmp_isNaN_int64.f (a0 : Int) : Option (Bool) := some (a0 != a0)
set_option maxHeartbeats 8000000 in
set_option maxRecDepth 100000 in
theorem cmp_isNaN_int64.calls (a0 : Int) (r : Bool) (w : World) (h : cmp_isNaN_int64.f a0 = some r) :
  Calls Try.prog 92 #[.int .i64 a0] w fun e w' => e = .returned (.bool r) ∧ Drawn0 w w' := by
 have H : (some (a0 != a0)) = some r := h
 clear h
 obtain rfl := Option.some.inj H
 go_enter Try.func92, Try.ntmps92
 go_wp2
 go_ret
 exact ⟨m_14, m_28⟩
end Go.Proofs.Ytelklgdmhnkenaa.U
namespace Go.Proofs.Ytelklgdmhnkenaa.U
attribute [local go_sem] max2_int min2_int max_two min_two max_three min_three max_four min_four
def cmp_Compare_int64.f (a0 : Int) (a1 : Int) : Option (Int) := (cmp_isNaN_int64.f a0).bind fun t102 => ((cmp_isNaN_int64.f a1).bind fun t103 => (if t102 = true then (if t103 = true then (some 0) else (some (-1))) else (if t103 = true then (some 1) else (if a0 < a1 then (some (-1)) else (if a0 > a1 then (some 1) else (some 0))))))
set_option maxHeartbeats 8000000 in
set_option maxRecDepth 100000 in
theorem cmp_Compare_int64.calls (a0 : Int) (a1 : Int) (r : Int) (w : World) (h : cmp_Compare_int64.f a0 a1 = some r) :
  Calls Try.prog 72 #[.int .i64 a0, .int .i64 a1] w fun e w' => e = .returned (.int .i64 r) ∧ Drawn0 w w' := by
 have H : ((cmp_isNaN_int64.f a0).bind fun t102 => ((cmp_isNaN_int64.f a1).bind fun t103 => (if t102 = true then (if t103 = true then (some 0) else (some (-1))) else (if t103 = true then (some 1) else (if a0 < a1 then (some (-1)) else (if a0 > a1 then (some 1) else (some 0))))))) = some r := h
 clear h
 replace H := Option.bind_eq_some_iff.mp H
 obtain ⟨t102, A30, H⟩ := H
 replace H : ((cmp_isNaN_int64.f a1).bind fun t103 => (if t102 = true then (if t103 = true then (some 0) else (some (-1))) else (if t103 = true then (some 1) else (if a0 < a1 then (some (-1)) else (if a0 > a1 then (some 1) else (some 0)))))) = some r := H
 have A3 := Aside0.mk A30
 clear A30
 replace H := Option.bind_eq_some_iff.mp H
 obtain ⟨t103, A40, H⟩ := H
 replace H : (if t102 = true then (if t103 = true then (some 0) else (some (-1))) else (if t103 = true then (some 1) else (if a0 < a1 then (some (-1)) else (if a0 > a1 then (some 1) else (some 0))))) = some r := H
 have A4 := Aside0.mk A40
 clear A40
 by_cases c5 : t102 = true
 ·subst c5
  have H1 : (if t103 = true then (some 0) else (some (-1))) = some r := by rw [if_pos rfl] at H; exact H
  clear H
  have H := H1
  clear H1
  by_cases c6 : t103 = true
  ·subst c6
   have H1 : (some 0) = some r := by rw [if_pos rfl] at H; exact H
   clear H
   have H := H1
   clear H1
   obtain rfl := Option.some.inj H
   go_enter Try.func72, Try.ntmps72
   go_wp2_with (first | ((with_reducible refine gate_callee (f := 92) rfl ?_); refine goesL_ (some 8) rfl rfl Try.func92 m_19 rfl #[.int .i64 a0] rfl m_2 ?_; (with_reducible refine (cmp_isNaN_int64.calls a0 true _ A3.out).mono ?_); rintro e w' ⟨rfl, ⟨nd, rfl⟩⟩; refine ⟨_, rfl, ?_⟩) | ((with_reducible refine gate_callee (f := 92) rfl ?_); refine goesL_ (some 10) rfl rfl Try.func92 m_19 rfl #[.int .i64 a1] rfl m_2 ?_; (with_reducible refine (cmp_isNaN_int64.calls a1 true _ A4.out).mono ?_); rintro e w' ⟨rfl, ⟨nd, rfl⟩⟩; refine ⟨_, rfl, ?_⟩))
   go_ret
   exact ⟨m_14, m_28⟩
  ·replace c6 := Bool.eq_false_iff.mpr c6
   subst c6
   have H1 : (some (-1)) = some r := by rw [if_neg (show ¬ (false = true) by decide)] at H; exact H
   clear H
   have H := H1
   clear H1
   obtain rfl := Option.some.inj H
   go_enter Try.func72, Try.ntmps72
   go_wp2_with (first | ((with_reducible refine gate_callee (f := 92) rfl ?_); refine goesL_ (some 8) rfl rfl Try.func92 m_19 rfl #[.int .i64 a0] rfl m_2 ?_; (with_reducible refine (cmp_isNaN_int64.calls a0 true _ A3.out).mono ?_); rintro e w' ⟨rfl, ⟨nd, rfl⟩⟩; refine ⟨_, rfl, ?_⟩) | ((with_reducible refine gate_callee (f := 92) rfl ?_); refine goesL_ (some 10) rfl rfl Try.func92 m_19 rfl #[.int .i64 a1] rfl m_2 ?_; (with_reducible refine (cmp_isNaN_int64.calls a1 false _ A4.out).mono ?_); rintro e w' ⟨rfl, ⟨nd, rfl⟩⟩; refine ⟨_, rfl, ?_⟩))
   go_ret
   exact ⟨m_14, m_28⟩
 ·replace c5 := Bool.eq_false_iff.mpr c5
  subst c5
  have H1 : (if t103 = true then (some 1) else (if a0 < a1 then (some (-1)) else (if a0 > a1 then (some 1) else (some 0)))) = some r := by rw [if_neg (show ¬ (false = true) by decide)] at H; exact H
  clear H
  have H := H1
  clear H1
  by_cases c7 : t103 = true
  ·subst c7
   have H1 : (some 1) = some r := by rw [if_pos rfl] at H; exact H
   clear H
   have H := H1
   clear H1
   obtain rfl := Option.some.inj H
   go_enter Try.func72, Try.ntmps72
   go_wp2_with (first | ((with_reducible refine gate_callee (f := 92) rfl ?_); refine goesL_ (some 8) rfl rfl Try.func92 m_19 rfl #[.int .i64 a0] rfl m_2 ?_; (with_reducible refine (cmp_isNaN_int64.calls a0 false _ A3.out).mono ?_); rintro e w' ⟨rfl, ⟨nd, rfl⟩⟩; refine ⟨_, rfl, ?_⟩) | ((with_reducible refine gate_callee (f := 92) rfl ?_); refine goesL_ (some 10) rfl rfl Try.func92 m_19 rfl #[.int .i64 a1] rfl m_2 ?_; (with_reducible refine (cmp_isNaN_int64.calls a1 true _ A4.out).mono ?_); rintro e w' ⟨rfl, ⟨nd, rfl⟩⟩; refine ⟨_, rfl, ?_⟩))
   go_ret
   exact ⟨m_14, m_28⟩
  ·replace c7 := Bool.eq_false_iff.mpr c7
   subst c7
   have H1 : (if a0 < a1 then (some (-1)) else (if a0 > a1 then (some 1) else (some 0))) = some r := by rw [if_neg (show ¬ (false = true) by decide)] at H; exact H
   clear H
   have H := H1
   clear H1
   by_cases c8 : a0 < a1
   ·rw [if_pos c8] at H
    have c8b0 : decide (a0 < a1) = true := decide_eq_true c8
    clear c8
    obtain rfl := Option.some.inj H
    go_enter Try.func72, Try.ntmps72
    go_wp2_with (first | ((with_reducible refine gate_callee (f := 92) rfl ?_); refine goesL_ (some 8) rfl rfl Try.func92 m_19 rfl #[.int .i64 a0] rfl m_2 ?_; (with_reducible refine (cmp_isNaN_int64.calls a0 false _ A3.out).mono ?_); rintro e w' ⟨rfl, ⟨nd, rfl⟩⟩; refine ⟨_, rfl, ?_⟩) | ((with_reducible refine gate_callee (f := 92) rfl ?_); refine goesL_ (some 10) rfl rfl Try.func92 m_19 rfl #[.int .i64 a1] rfl m_2 ?_; (with_reducible refine (cmp_isNaN_int64.calls a1 false _ A4.out).mono ?_); rintro e w' ⟨rfl, ⟨nd, rfl⟩⟩; refine ⟨_, rfl, ?_⟩))
    go_ret
    exact ⟨m_14, m_28⟩
   ·rw [if_neg c8] at H
    have c8b0 : decide (a0 < a1) = false := decide_eq_false c8
    clear c8
    by_cases c9 : a0 > a1
    ·rw [if_pos c9] at H
     have c9b0 : decide (a1 < a0) = true := decide_eq_true c9
     clear c9
     obtain rfl := Option.some.inj H
     go_enter Try.func72, Try.ntmps72
     go_wp2_with (first | ((with_reducible refine gate_callee (f := 92) rfl ?_); refine goesL_ (some 8) rfl rfl Try.func92 m_19 rfl #[.int .i64 a0] rfl m_2 ?_; (with_reducible refine (cmp_isNaN_int64.calls a0 false _ A3.out).mono ?_); rintro e w' ⟨rfl, ⟨nd, rfl⟩⟩; refine ⟨_, rfl, ?_⟩) | ((with_reducible refine gate_callee (f := 92) rfl ?_); refine goesL_ (some 10) rfl rfl Try.func92 m_19 rfl #[.int .i64 a1] rfl m_2 ?_; (with_reducible refine (cmp_isNaN_int64.calls a1 false _ A4.out).mono ?_); rintro e w' ⟨rfl, ⟨nd, rfl⟩⟩; refine ⟨_, rfl, ?_⟩))
     go_ret
     exact ⟨m_14, m_28⟩
    ·rw [if_neg c9] at H
     have c9b0 : decide (a1 < a0) = false := decide_eq_false c9
     clear c9
     obtain rfl := Option.some.inj H
     go_enter Try.func72, Try.ntmps72
     go_wp2_with (first | ((with_reducible refine gate_callee (f := 92) rfl ?_); refine goesL_ (some 8) rfl rfl Try.func92 m_19 rfl #[.int .i64 a0] rfl m_2 ?_; (with_reducible refine (cmp_isNaN_int64.calls a0 false _ A3.out).mono ?_); rintro e w' ⟨rfl, ⟨nd, rfl⟩⟩; refine ⟨_, rfl, ?_⟩) | ((with_reducible refine gate_callee (f := 92) rfl ?_); refine goesL_ (some 10) rfl rfl Try.func92 m_19 rfl #[.int .i64 a1] rfl m_2 ?_; (with_reducible refine (cmp_isNaN_int64.calls a1 false _ A4.out).mono ?_); rintro e w' ⟨rfl, ⟨nd, rfl⟩⟩; refine ⟨_, rfl, ?_⟩))
     go_ret
     exact ⟨m_14, m_28⟩
end Go.Proofs.Ytelklgdmhnkenaa.U
namespace Go.Proofs.Ytelklgdmhnkenaa.U
attribute [local go_sem] max2_int min2_int max_two min_two max_three min_three max_four min_four
def cmp_isNaN_int.f (a0 : Int) : Option (Bool) := some (a0 != a0)
set_option maxHeartbeats 8000000 in
set_option maxRecDepth 100000 in
theorem cmp_isNaN_int.calls (a0 : Int) (r : Bool) (w : World) (h : cmp_isNaN_int.f a0 = some r) :
  Calls Try.prog 93 #[.int .i64 a0] w fun e w' => e = .returned (.bool r) ∧ Drawn0 w w' := by
 have H : (some (a0 != a0)) = some r := h
 clear h
 obtain rfl := Option.some.inj H
 go_enter Try.func93, Try.ntmps93
 go_wp2
 go_ret
 exact ⟨m_14, m_28⟩
end Go.Proofs.Ytelklgdmhnkenaa.U
namespace Go.Proofs.Ytelklgdmhnkenaa.U
attribute [local go_sem] max2_int min2_int max_two min_two max_three min_three max_four min_four
def cmp_Compare_int.f (a0 : Int) (a1 : Int) : Option (Int) := (cmp_isNaN_int.f a0).bind fun t104 => ((cmp_isNaN_int.f a1).bind fun t105 => (if t104 = true then (if t105 = true then (some 0) else (some (-1))) else (if t105 = true then (some 1) else (if a0 < a1 then (some (-1)) else (if a0 > a1 then (some 1) else (some 0))))))
set_option maxHeartbeats 8000000 in
set_option maxRecDepth 100000 in
theorem cmp_Compare_int.calls (a0 : Int) (a1 : Int) (r : Int) (w : World) (h : cmp_Compare_int.f a0 a1 = some r) :
  Calls Try.prog 73 #[.int .i64 a0, .int .i64 a1] w fun e w' => e = .returned (.int .i64 r) ∧ Drawn0 w w' := by
 have H : ((cmp_isNaN_int.f a0).bind fun t104 => ((cmp_isNaN_int.f a1).bind fun t105 => (if t104 = true then (if t105 = true then (some 0) else (some (-1))) else (if t105 = true then (some 1) else (if a0 < a1 then (some (-1)) else (if a0 > a1 then (some 1) else (some 0))))))) = some r := h
 clear h
 replace H := Option.bind_eq_some_iff.mp H
 obtain ⟨t104, A30, H⟩ := H
 replace H : ((cmp_isNaN_int.f a1).bind fun t105 => (if t104 = true then (if t105 = true then (some 0) else (some (-1))) else (if t105 = true then (some 1) else (if a0 < a1 then (some (-1)) else (if a0 > a1 then (some 1) else (some 0)))))) = some r := H
 have A3 := Aside0.mk A30
 clear A30
 replace H := Option.bind_eq_some_iff.mp H
 obtain ⟨t105, A40, H⟩ := H
 replace H : (if t104 = true then (if t105 = true then (some 0) else (some (-1))) else (if t105 = true then (some 1) else (if a0 < a1 then (some (-1)) else (if a0 > a1 then (some 1) else (some 0))))) = some r := H
 have A4 := Aside0.mk A40
 clear A40
 by_cases c5 : t104 = true
 ·subst c5
  have H1 : (if t105 = true then (some 0) else (some (-1))) = some r := by rw [if_pos rfl] at H; exact H
  clear H
  have H := H1
  clear H1
  by_cases c6 : t105 = true
  ·subst c6
   have H1 : (some 0) = some r := by rw [if_pos rfl] at H; exact H
   clear H
   have H := H1
   clear H1
   obtain rfl := Option.some.inj H
   go_enter Try.func73, Try.ntmps73
   go_wp2_with (first | ((with_reducible refine gate_callee (f := 93) rfl ?_); refine goesL_ (some 8) rfl rfl Try.func93 m_19 rfl #[.int .i64 a0] rfl m_2 ?_; (with_reducible refine (cmp_isNaN_int.calls a0 true _ A3.out).mono ?_); rintro e w' ⟨rfl, ⟨nd, rfl⟩⟩; refine ⟨_, rfl, ?_⟩) | ((with_reducible refine gate_callee (f := 93) rfl ?_); refine goesL_ (some 10) rfl rfl Try.func93 m_19 rfl #[.int .i64 a1] rfl m_2 ?_; (with_reducible refine (cmp_isNaN_int.calls a1 true _ A4.out).mono ?_); rintro e w' ⟨rfl, ⟨nd, rfl⟩⟩; refine ⟨_, rfl, ?_⟩))
   go_ret
   exact ⟨m_14, m_28⟩
  ·replace c6 := Bool.eq_false_iff.mpr c6
   subst c6
   have H1 : (some (-1)) = some r := by rw [if_neg (show ¬ (false = true) by decide)] at H; exact H
   clear H
   have H := H1
   clear H1
   obtain rfl := Option.some.inj H
   go_enter Try.func73, Try.ntmps73
   go_wp2_with (first | ((with_reducible refine gate_callee (f := 93) rfl ?_); refine goesL_ (some 8) rfl rfl Try.func93 m_19 rfl #[.int .i64 a0] rfl m_2 ?_; (with_reducible refine (cmp_isNaN_int.calls a0 true _ A3.out).mono ?_); rintro e w' ⟨rfl, ⟨nd, rfl⟩⟩; refine ⟨_, rfl, ?_⟩) | ((with_reducible refine gate_callee (f := 93) rfl ?_); refine goesL_ (some 10) rfl rfl Try.func93 m_19 rfl #[.int .i64 a1] rfl m_2 ?_; (with_reducible refine (cmp_isNaN_int.calls a1 false _ A4.out).mono ?_); rintro e w' ⟨rfl, ⟨nd, rfl⟩⟩; refine ⟨_, rfl, ?_⟩))
   go_ret
   exact ⟨m_14, m_28⟩
 ·replace c5 := Bool.eq_false_iff.mpr c5
  subst c5
  have H1 : (if t105 = true then (some 1) else (if a0 < a1 then (some (-1)) else (if a0 > a1 then (some 1) else (some 0)))) = some r := by rw [if_neg (show ¬ (false = true) by decide)] at H; exact H
  clear H
  have H := H1
  clear H1
  by_cases c7 : t105 = true
  ·subst c7
   have H1 : (some 1) = some r := by rw [if_pos rfl] at H; exact H
   clear H
   have H := H1
   clear H1
   obtain rfl := Option.some.inj H
   go_enter Try.func73, Try.ntmps73
   go_wp2_with (first | ((with_reducible refine gate_callee (f := 93) rfl ?_); refine goesL_ (some 8) rfl rfl Try.func93 m_19 rfl #[.int .i64 a0] rfl m_2 ?_; (with_reducible refine (cmp_isNaN_int.calls a0 false _ A3.out).mono ?_); rintro e w' ⟨rfl, ⟨nd, rfl⟩⟩; refine ⟨_, rfl, ?_⟩) | ((with_reducible refine gate_callee (f := 93) rfl ?_); refine goesL_ (some 10) rfl rfl Try.func93 m_19 rfl #[.int .i64 a1] rfl m_2 ?_; (with_reducible refine (cmp_isNaN_int.calls a1 true _ A4.out).mono ?_); rintro e w' ⟨rfl, ⟨nd, rfl⟩⟩; refine ⟨_, rfl, ?_⟩))
   go_ret
   exact ⟨m_14, m_28⟩
  ·replace c7 := Bool.eq_false_iff.mpr c7
   subst c7
   have H1 : (if a0 < a1 then (some (-1)) else (if a0 > a1 then (some 1) else (some 0))) = some r := by rw [if_neg (show ¬ (false = true) by decide)] at H; exact H
   clear H
   have H := H1
   clear H1
   by_cases c8 : a0 < a1
   ·rw [if_pos c8] at H
    have c8b0 : decide (a0 < a1) = true := decide_eq_true c8
    clear c8
    obtain rfl := Option.some.inj H
    go_enter Try.func73, Try.ntmps73
    go_wp2_with (first | ((with_reducible refine gate_callee (f := 93) rfl ?_); refine goesL_ (some 8) rfl rfl Try.func93 m_19 rfl #[.int .i64 a0] rfl m_2 ?_; (with_reducible refine (cmp_isNaN_int.calls a0 false _ A3.out).mono ?_); rintro e w' ⟨rfl, ⟨nd, rfl⟩⟩; refine ⟨_, rfl, ?_⟩) | ((with_reducible refine gate_callee (f := 93) rfl ?_); refine goesL_ (some 10) rfl rfl Try.func93 m_19 rfl #[.int .i64 a1] rfl m_2 ?_; (with_reducible refine (cmp_isNaN_int.calls a1 false _ A4.out).mono ?_); rintro e w' ⟨rfl, ⟨nd, rfl⟩⟩; refine ⟨_, rfl, ?_⟩))
    go_ret
    exact ⟨m_14, m_28⟩
   ·rw [if_neg c8] at H
    have c8b0 : decide (a0 < a1) = false := decide_eq_false c8
    clear c8
    by_cases c9 : a0 > a1
    ·rw [if_pos c9] at H
     have c9b0 : decide (a1 < a0) = true := decide_eq_true c9
     clear c9
     obtain rfl := Option.some.inj H
     go_enter Try.func73, Try.ntmps73
     go_wp2_with (first | ((with_reducible refine gate_callee (f := 93) rfl ?_); refine goesL_ (some 8) rfl rfl Try.func93 m_19 rfl #[.int .i64 a0] rfl m_2 ?_; (with_reducible refine (cmp_isNaN_int.calls a0 false _ A3.out).mono ?_); rintro e w' ⟨rfl, ⟨nd, rfl⟩⟩; refine ⟨_, rfl, ?_⟩) | ((with_reducible refine gate_callee (f := 93) rfl ?_); refine goesL_ (some 10) rfl rfl Try.func93 m_19 rfl #[.int .i64 a1] rfl m_2 ?_; (with_reducible refine (cmp_isNaN_int.calls a1 false _ A4.out).mono ?_); rintro e w' ⟨rfl, ⟨nd, rfl⟩⟩; refine ⟨_, rfl, ?_⟩))
     go_ret
     exact ⟨m_14, m_28⟩
    ·rw [if_neg c9] at H
     have c9b0 : decide (a1 < a0) = false := decide_eq_false c9
     clear c9
     obtain rfl := Option.some.inj H
     go_enter Try.func73, Try.ntmps73
     go_wp2_with (first | ((with_reducible refine gate_callee (f := 93) rfl ?_); refine goesL_ (some 8) rfl rfl Try.func93 m_19 rfl #[.int .i64 a0] rfl m_2 ?_; (with_reducible refine (cmp_isNaN_int.calls a0 false _ A3.out).mono ?_); rintro e w' ⟨rfl, ⟨nd, rfl⟩⟩; refine ⟨_, rfl, ?_⟩) | ((with_reducible refine gate_callee (f := 93) rfl ?_); refine goesL_ (some 10) rfl rfl Try.func93 m_19 rfl #[.int .i64 a1] rfl m_2 ?_; (with_reducible refine (cmp_isNaN_int.calls a1 false _ A4.out).mono ?_); rintro e w' ⟨rfl, ⟨nd, rfl⟩⟩; refine ⟨_, rfl, ?_⟩))
     go_ret
     exact ⟨m_14, m_28⟩
end Go.Proofs.Ytelklgdmhnkenaa.U
/- slices.SortFunc at the pieces: the shelf's contract laid at this program (the rows are the kit's lay-plain tool's). -/
namespace Go.Proofs.Ytelklgdmhnkenaa.U
open Go.Proofs Go.Shelf Go.RowKit Go.Lib Go.Sort
def sortPc_ren : Go.Shelf.Ren := ⟨fun | 6 => 69 | 15 => 91 | 14 => 90 | 28 => 117 | 29 => 118 | 20 => 109 | 21 => 110 | 22 => 111 | 23 => 112 | 24 => 113 | 25 => 114 | 26 => 115 | 27 => 116 | 46 => 127 | 47 => 128 | 48 => 129 | 49 => 130 | 50 => 131 | 57 => 135 | n => n, fun | 22 => 89 | 24 => 84 | 25 => 108 | 3 => 3 | 39 => 118 | 0 => 0 | 53 => 117 | 55 => 115 | 4 => 4 | 46 => 146 | 45 => 145 | 50 => 36 | 5 => 5 | 9 => 9 | 66 => 156 | 70 => 160 | 76 => 168 | 77 => 169 | n => n, fun | n => n⟩
theorem sortPc : Go.Proofs.SlLaysF0.n6 Try.prog sortPc_ren := {
  mixed := by kernel_rfl
  f6 := ⟨Try.f69.name, by decide, Try.func69.trans (congrArg some (by kernel_rfl))⟩
  f14 := ⟨Try.f90.name, by decide, Try.func90.trans (congrArg some (by kernel_rfl))⟩
  f15 := Try.func91.trans (congrArg some (by kernel_rfl))
  f20 := ⟨Try.f109.name, by decide, Try.func109.trans (congrArg some (by kernel_rfl))⟩
  f21 := ⟨Try.f110.name, by decide, Try.func110.trans (congrArg some (by kernel_rfl))⟩
  f22 := ⟨Try.f111.name, by decide, Try.func111.trans (congrArg some (by kernel_rfl))⟩
  f23 := ⟨Try.f112.name, by decide, Try.func112.trans (congrArg some (by kernel_rfl))⟩
  f24 := ⟨Try.f113.name, by decide, Try.func113.trans (congrArg some (by kernel_rfl))⟩
  f25 := ⟨Try.f114.name, by decide, Try.func114.trans (congrArg some (by kernel_rfl))⟩
  f26 := ⟨Try.f115.name, by decide, Try.func115.trans (congrArg some (by kernel_rfl))⟩
  f27 := ⟨Try.f116.name, by decide, Try.func116.trans (congrArg some (by kernel_rfl))⟩
  f28 := Try.func117.trans (congrArg some (by kernel_rfl))
  f29 := Try.func118.trans (congrArg some (by kernel_rfl))
  f46 := ⟨Try.f127.name, by decide, Try.func127.trans (congrArg some (by kernel_rfl))⟩
  f47 := Try.func128.trans (congrArg some (by kernel_rfl))
  f48 := Try.func129.trans (congrArg some (by kernel_rfl))
  f49 := ⟨Try.f130.name, by decide, Try.func130.trans (congrArg some (by kernel_rfl))⟩
  f50 := ⟨Try.f131.name, by decide, Try.func131.trans (congrArg some (by kernel_rfl))⟩
  f57 := ⟨Try.f135.name, by decide, Try.func135.trans (congrArg some (by kernel_rfl))⟩
  t0 := Try.underlying0
  a0 := Try.isAgg0
  z0 := Try.sizeOf0
  v0 := Try.zeroValue0
  t3 := Try.underlying3
  a3 := Try.isAgg3
  z3 := Try.sizeOf3
  v3 := Try.zeroValue3
  t4 := Try.underlying4
  a4 := Try.isAgg4
  z4 := Try.sizeOf4
  v4 := Try.zeroValue4
  t5 := Try.underlying5
  a5 := Try.isAgg5
  z5 := Try.sizeOf5
  v5 := Try.zeroValue5
  t9 := Try.underlying9
  a9 := Try.isAgg9
  z9 := Try.sizeOf9
  v9 := Try.zeroValue9
  t22 := Try.underlying89
  a22 := Try.isAgg89
  z22 := Try.sizeOf89
  v22 := Try.zeroValue89
  t25 := Try.underlying108
  a25 := Try.isAgg108
  z25 := Try.sizeOf108
  v25 := Try.zeroValue108
  t39 := Try.underlying118
  a39 := Try.isAgg118
  z39 := Try.sizeOf118
  v39 := Try.zeroValue118
  t45 := Try.underlying145
  a45 := Try.isAgg145
  z45 := Try.sizeOf145
  v45 := Try.zeroValue145
  t46 := Try.underlying146
  a46 := Try.isAgg146
  z46 := Try.sizeOf146
  v46 := Try.zeroValue146
  t50 := Try.underlying36
  a50 := Try.isAgg36
  z50 := Try.sizeOf36
  v50 := Try.zeroValue36
  t53 := Try.underlying117
  a53 := Try.isAgg117
  z53 := Try.sizeOf117
  v53 := Try.zeroValue117
  t55 := Try.underlying115
  a55 := Try.isAgg115
  z55 := Try.sizeOf115
  v55 := Try.zeroValue115
  t66 := Try.underlying156
  a66 := Try.isAgg156
  z66 := Try.sizeOf156
  v66 := Try.zeroValue156
  t70 := Try.underlying160
  a70 := Try.isAgg160
  z70 := Try.sizeOf160
  v70 := Try.zeroValue160
  t76 := Try.underlying168
  a76 := Try.isAgg168
  z76 := Try.sizeOf168
  v76 := Try.zeroValue168
  t77 := Try.underlying169
  a77 := Try.isAgg169
  z77 := Try.sizeOf169
  v77 := Try.zeroValue169 }
end Go.Proofs.Ytelklgdmhnkenaa.U
namespace Go.Proofs.Ytelklgdmhnkenaa.U
attribute [local go_sem] max2_int min2_int max_two min_two max_three min_three max_four min_four
abbrev Pc := Int × Int × Int
def pcell (p : Pc) : List Value := [.int .i64 p.1, .int .i64 p.2.1, .int .i64 p.2.2]
def cellsP (qs : List Pc) : List Value := qs.flatMap pcell ++ (List.replicate (45 - 3 * qs.length) (.int .i64 0) ++ [.int .i64 qs.length])
def PB (w : World) (g : Nat) (qs : List Pc) : Prop := qs.length ≤ 15 ∧ w.heap[g]? = some (.cells (cellsP qs).toArray 87 (0, 0))
def addS (at_ : Int) : Int → List S99 → List Pc
 | _, [] => []
 | b, s :: l => if b < s.f0 then (at_, s.f0 - b, s.f1) :: addS at_ 0 l else addS at_ (b - s.f0) l
theorem flat_len (qs : List Pc) : (qs.flatMap pcell).length = 3 * qs.length := by
 induction qs with
 | nil => rfl
 | cons p l ih => rw [List.flatMap_cons, List.length_append, ih]; simp [pcell]; omega
theorem cellsP_n {qs : List Pc} (h : qs.length ≤ 15) : (cellsP qs)[45]? = some (.int .i64 qs.length) := by
 unfold cellsP
 rw [List.getElem?_append_right (by rw [flat_len]; omega), flat_len, List.getElem?_append_right (by simp)]
 simp
theorem cellsP_z {qs : List Pc} (h : qs.length < 15) (i : Nat) (hi : i < 3) : (cellsP qs)[qs.length * 3 + i]? = some (.int .i64 0) := by
 unfold cellsP
 rw [List.getElem?_append_right (by rw [flat_len]; omega), flat_len, List.getElem?_append_left (by simp; omega)]
 rw [List.getElem?_replicate, if_pos (by omega)]
theorem cellsP_snoc {qs : List Pc} (h : qs.length < 15) (p : Pc) :
  ((((cellsP qs).set (3 * qs.length) (.int .i64 p.1)).set (3 * qs.length + 1) (.int .i64 p.2.1)).set (3 * qs.length + 2) (.int .i64 p.2.2)).set 45 (.int .i64 ((qs.length : Int) + 1)) = cellsP (qs ++ [p]) := by
 obtain ⟨m, hm⟩ : ∃ m, 45 - 3 * qs.length = m + 3 := ⟨42 - 3 * qs.length, (by omega)⟩
 have h2 : 45 - 3 * (qs ++ [p]).length = m := by simp; omega
 unfold cellsP
 rw [hm, h2, List.flatMap_append]
 have hl := flat_len qs
 have e1 : 3 * qs.length + 1 - (qs.flatMap pcell).length = 1 := by omega
 have e2 : 3 * qs.length + 2 - (qs.flatMap pcell).length = 2 := by omega
 have e0 : 3 * qs.length - (qs.flatMap pcell).length = 0 := by omega
 have e3 : 45 - (qs.flatMap pcell).length = m + 3 := by omega
 rw [List.set_append_right _ _ (by omega), e0, List.set_append_right _ _ (by omega), e1, List.set_append_right _ _ (by omega), e2, List.set_append_right _ _ (by omega), e3, List.append_assoc]
 congr 1
 simp [List.replicate_succ, pcell, List.set_append]
def okS (b : Int) (l : List S99) : Prop := 0 ≤ b ∧ b ≤ 1000000000000 ∧ ∀ s ∈ l, 0 ≤ s.f0 ∧ s.f0 ≤ 1000000000000
theorem keep_setg {w W : World} {g : Nat} (h : KeepBut w W g none) (o : Nat) (u : Value) : KeepBut w (W.setCell ⟨g, o, none⟩ u) g none := ⟨(by simpa [World.setCell] using h.1), fun i hi hg hr => (Below.heap_setCell W ⟨g, o, none⟩ u i hg).trans (h.2 i hi hg hr)⟩
theorem cut_lt {n kq j m : Nat} (h : n + kq ≤ 15) (h2 : kq + j = m) (h3 : j < m) : n < 15 := by omega
set_option maxHeartbeats 8000000 in
set_option maxRecDepth 100000 in
theorem pieces_add_calls (w0 : World) (g : Nat) (at_ u0 u1 u3 u4 u5 u6 u7 u8 : Int) (A2 : Option Addr) (c2 : Nat) (l2 : List S99) (ps : List Pc) (w : World) (hb0 : Below w0.heap.size w0 w) (hg : w0.heap.size ≤ g) (hP : PB w g ps) (hr : Kd.C k99 w0 A2 l2.length l2) (hn : ps.length + l2.length ≤ 15) (hk : okS u1 l2) :
  Calls Try.prog 55 #[.pointer (some ⟨g, 0, none⟩), .int .i64 at_, .agg #[.int .i64 u0, .int .i64 u1, .slice A2 l2.length c2, .int .i64 u3, .int .i64 u4, .int .i64 u5, .int .i64 u6, .int .i64 u7, .int .i64 u8]] w fun e w' => e = .returned (.tuple #[]) ∧ PB w' g (ps ++ addS at_ u1 l2) ∧ Below w0.heap.size w0 w' ∧ KeepBut w w' g none := by
 have HR := Aside0.mk hr
 have HB0 := Aside0.mk hb0
 have HG := Aside0.mk hg
 have HP := Aside0.mk hP
 have HN := Aside0.mk hn
 have HK := Aside0.mk hk
 clear hr hb0 hg hP hn hk
 have hu24 := Try.underlying24
 have hu99 := Try.underlying99
 have hu87 := Try.underlying87
 have hu84 := Try.underlying84
 have hu85 := Try.underlying85
 have HSZ := Aside0.mk HB0.out.size
 go_enter Try.func55, Try.ntmps55
 go_wp2_with fail
 go_loopg [6, 15] l2.length (fun kq v6 v15 wc => ∃ (b : Int) (j : Nat) (qs : List Pc), v6 = .int .i64 b ∧ v15 = .int .i64 j ∧ Aside0 (kq + j = l2.length) ∧ Aside0 (ps ++ addS at_ u1 l2 = qs ++ addS at_ b (l2.drop j)) ∧ Aside0 (qs.length + kq ≤ 15) ∧ Aside0 (okS b (l2.drop j)) ∧ Aside0 (PB wc g qs) ∧ Aside0 (Below w0.heap.size w0 wc) ∧ Aside0 (KeepBut w wc g none))
 case atStart =>
  have hsz := HSZ.out
  have hb := (below_alloc (Below.refl w.heap.size w) (.cells #[.int .i64 u0, .int .i64 u1, .slice A2 l2.length c2, .int .i64 u3, .int .i64 u4, .int .i64 u5, .int .i64 u6, .int .i64 u7, .int .i64 u8] 24 (0, 0)))
  exact ⟨u1, 0, ps, rfl, rfl, ⟨rfl⟩, ⟨(by rw [List.drop_zero])⟩, ⟨HN.out⟩, ⟨(by rw [List.drop_zero]; exact HK.out)⟩, ⟨HP.out.1, any_below HP.out.2 hb⟩, ⟨below_step HB0.out hb⟩, ⟨hb.size, fun k hk _ _ => hb.block k hk⟩⟩
 case round =>
  obtain ⟨b, j, qs, rfl, rfl, HJ, HE, HL, HO, HQ, HB, HKP⟩ := hrel
  by_cases hj : j < l2.length
  ·obtain ⟨k1, rfl⟩ : ∃ k1, gk = k1 + 1 := ⟨gk - 1, m_144⟩
   have hp : 0 ≤ (j : Int) := by omega
   have hq : (j : Int) < (l2.length : Int) := by omega
   obtain ⟨ad, e1, x0, x1⟩ := at_T99 HR.out (j : Int) hp hq
   subst e1
   replace x0 := (HB.out.cell (World.block_lt_of_cell? w0 _ x0)).trans x0
   replace x1 := (HB.out.cell (World.block_lt_of_cell? w0 _ x1)).trans x1
   have hd : l2.drop j = l2[j] :: l2.drop (j + 1) := List.drop_eq_getElem_cons hj
   have hr0 : rd_T99 l2 (j : Int) = l2[j] := rd99 l2 j hj
   rw [hr0, Int.toNat_natCast] at x0 x1
   obtain ⟨s, hs⟩ : ∃ s, s = l2[j] := ⟨_, rfl⟩
   rw [← hs] at x0 x1 hd
   have HD := Aside0.mk hd
   clear hd hr0 hs
   have qj : decide ((j : Int) < (l2.length : Int)) = true := decide_eq_true hq
   have qj2 : decide (j < l2.length) = true := decide_eq_true hj
   replace hq := eq_true hq
   replace hp := eq_true hp
   have HJ2 := Aside0.mk hj
   clear hj
   have wj : wrap64 ((j : Int) + 1) = ((j + 1 : Nat) : Int) := by have h1 := HJ2.out; have h2 := HN.out; exact (wrap64_id (by omega) (by omega)).trans (by omega)
   by_cases hm : b < s.f0
   ·have HM := Aside0.mk hm
    have m1 : (s.f0 < b) = False := eq_false (by omega)
    have m2 : (b < s.f0) = True := eq_true hm
    clear hm
    have z1 : wr.cell? ⟨g, 45, none⟩ = some (.int .i64 qs.length) := by
     rw [blk_cell HQ.out.2 45, List.getElem?_toArray]
     exact cellsP_n HQ.out.1
    have z2 := blk_frozen HQ.out.2 45
    have HZ := Aside0.mk z1
    clear z1 z2
    go_upto_region 8 with (fail)
    refine wp_gen (F := fun Wk => Wk.heap[wr.heap.size]? = some (.cells #[.int .i64 s.f0, .int .i64 s.f1] 99 (0, 0)) ∧ Wk.heap[g]? = some (.cells (cellsP qs).toArray 87 (0, 0)) ∧ Below w0.heap.size w0 Wk ∧ KeepBut w Wk g none ∧ wr.heap.size ≤ Wk.heap.size) ?_ ?_
    ·have hb := below_alloc (Below.refl wr.heap.size wr) (.cells #[.int .i64 s.f0, .int .i64 s.f1] 99 (0, 0))
     exact ⟨blk_new _ _, any_below HQ.out.2 hb, below_step HB.out hb, ⟨Nat.le_trans HKP.out.1 hb.size, fun k hk hne hr => (hb.block k (Nat.lt_of_lt_of_le hk HKP.out.1)).trans (HKP.out.2 k hk hne hr)⟩, hb.size⟩
    rintro Wk ⟨m0, m1, m2, m3, m4⟩
    obtain ⟨gb, hgb⟩ : ∃ gb, gb = wr.heap.size := ⟨_, rfl⟩
    rw [← hgb] at m0 ⊢
    have hne : gb ≠ g := by intro e; rw [e] at hgb; have := blk_lt HQ.out.2; omega
    have hgw : w0.heap.size ≤ gb ∧ w.heap.size ≤ gb := ⟨(by have := HB.out.size; omega), (by have := HKP.out.1; omega)⟩
    have BB := Aside0.mk (blk_drew m0)
    have BG := Aside0.mk (blk_drew m1)
    have HB2 := Aside0.mk (below_drew1 m2)
    have HK2 := Aside0.mk (show KeepBut w Wk.drew g none from m3)
    have HNE := Aside0.mk hne
    have HGW := Aside0.mk hgw
    clear m0 m1 m2 m3 m4 hgb hne hgw
    have hlt := cut_lt HL.out HJ.out HJ2.out
    have w1 : wrap64 (s.f0 - b) = s.f0 - b := by have h := HO.out; rw [HD.out] at h; have h2 := h.2.2 s List.mem_cons_self; have h1 := h.1; have h3 := h.2.1; exact wrap64_id (by omega) (by omega)
    have hlen : (qs.length : Int) < 15 := by omega
    have hl1 : decide ((qs.length : Int) < 15) = true := decide_eq_true hlen
    have hl2 : decide (qs.length < 15) = true := decide_eq_true hlt
    have HLT := Aside0.mk hlt
    clear hlt
    have r1 := eq_true hlen
    have r0 : (0 ≤ (qs.length : Int)) = True := eq_true (by omega)
    clear hlen
    refine start_ (n := 17) (S := fun w' => w'.cell? ⟨gb, 0, none⟩ = some (.int .i64 s.f0) ∧ w'.cell? ⟨gb, 1, none⟩ = some (.int .i64 s.f1) ∧ w'.cell? ⟨g, 45, none⟩ = some (.int .i64 qs.length)) (ds := []) #[false, false, false, false, false, false, false, false, false, false, false, false, false, false, false, false, false] m_19 rfl rfl ⟨(blk_cell BB.out 0).trans rfl, (blk_cell BB.out 1).trans rfl, (blk_cell BG.out 45).trans ((List.getElem?_toArray ..).trans (cellsP_n (by have := HLT.out; omega)))⟩ (fun hHeld => ?_)
    generalize Wk.drew = Wd at BB BG HB2 HK2 hHeld ⊢
    refine pB_ 0 ?_
    refine pB_ 1 ?_
    refine pB_ 2 ?_
    refine pB_ 3 ?_
    refine tB_ 4 hHeld ?_
    refine pB_ 5 ?_
    refine pB_ 6 ?_
    refine tB_ 7 hHeld ?_
    refine pB_ 8 ?_
    refine pB_ 9 ?_
    refine pB_ 10 ?_
    refine tB_ 11 hHeld ?_
    refine pB_ 12 ?_
    refine pB_ 13 ?_
    refine pB_ 14 ?_
    refine pB_ 15 ?_
    refine one_ (i := 16) (N := none) #[true, true, true, true, true, true, true, true, true, true, true, true, true, true, true, true, true] rfl rfl m_19 (by decide) (fun K hK => ?_)
    have y0 : Wd.cell? ⟨g, qs.length * 3, none⟩ = some (.int .i64 0) := (blk_cell BG.out _).trans ((List.getElem?_toArray ..).trans (cellsP_z HLT.out 0 (by omega)))
    have y1 : Wd.cell? ⟨g, qs.length * 3 + 1, none⟩ = some (.int .i64 0) := (blk_cell BG.out _).trans ((List.getElem?_toArray ..).trans (cellsP_z HLT.out 1 (by omega)))
    have y2 : Wd.cell? ⟨g, qs.length * 3 + 2, none⟩ = some (.int .i64 0) := (blk_cell BG.out _).trans ((List.getElem?_toArray ..).trans (cellsP_z HLT.out 2 (by omega)))
    have f0 := blk_frozen BG.out (qs.length * 3)
    have f1 := blk_frozen BG.out (qs.length * 3 + 1)
    have f2 := blk_frozen BG.out (qs.length * 3 + 2)
    refine skip_ (w1 := ?_) (by rfl) rfl ?_ ?_
    rotate_left
    ·go_simp
     rfl
    obtain ⟨q0, q1, q2⟩ := hHeld
    have hne := HNE.out
    have g3 := blk_put (blk_put (blk_put BG.out (qs.length * 3) (.int .i64 at_) (List.setIfInBounds_toArray ..)) (qs.length * 3 + 1) (.int .i64 (s.f0 - b)) (List.setIfInBounds_toArray ..)) (qs.length * 3 + 2) (.int .i64 s.f1) (List.setIfInBounds_toArray ..)
    have g45 : ((((cellsP qs).set (qs.length * 3) (.int .i64 at_)).set (qs.length * 3 + 1) (.int .i64 (s.f0 - b))).set (qs.length * 3 + 2) (.int .i64 s.f1))[45]? = some (.int .i64 qs.length) := by
     have := HLT.out
     rw [List.getElem?_set_ne (by omega), List.getElem?_set_ne (by omega), List.getElem?_set_ne (by omega)]
     exact cellsP_n (by omega)
    have far : ∀ (o : Nat) (u : Option Value), Wd.cell? ⟨gb, o, none⟩ = u → (((Wd.setCell ⟨g, qs.length * 3, none⟩ (.int .i64 at_)).setCell ⟨g, qs.length * 3 + 1, none⟩ (.int .i64 (s.f0 - b))).setCell ⟨g, qs.length * 3 + 2, none⟩ (.int .i64 s.f1)).cell? ⟨gb, o, none⟩ = u := fun o u hu => (cell_far (p := ⟨g, _, none⟩) hne _).trans ((cell_far (p := ⟨g, _, none⟩) hne _).trans ((cell_far (p := ⟨g, _, none⟩) hne _).trans hu))
    have hB3 : Below w0.heap.size w0 (((Wd.setCell ⟨g, qs.length * 3, none⟩ (.int .i64 at_)).setCell ⟨g, qs.length * 3 + 1, none⟩ (.int .i64 (s.f0 - b))).setCell ⟨g, qs.length * 3 + 2, none⟩ (.int .i64 s.f1)) := below_set (below_set (below_set HB2.out HG.out) HG.out) HG.out
    have hK3 : KeepBut w (((Wd.setCell ⟨g, qs.length * 3, none⟩ (.int .i64 at_)).setCell ⟨g, qs.length * 3 + 1, none⟩ (.int .i64 (s.f0 - b))).setCell ⟨g, qs.length * 3 + 2, none⟩ (.int .i64 s.f1)) g none := keep_setg (keep_setg (keep_setg HK2.out _ _) _ _) _ _
    refine hK.out _ _ ⟨far _ _ q0, far _ _ q1, (blk_cell g3 45).trans ((List.getElem?_toArray ..).trans g45)⟩ (fun hHeld => ?_)
    clear hK K
    refine done_ m_19 ?_
    have BG3 := Aside0.mk g3
    have HB3 := Aside0.mk hB3
    have HK3 := Aside0.mk hK3
    have z45 := (blk_cell g3 45).trans ((List.getElem?_toArray ..).trans g45)
    have zf := blk_frozen g3 45
    have wn : wrap64 ((qs.length : Int) + 1) = (qs.length : Int) + 1 := by have := HLT.out; exact wrap64_id (by omega) (by omega)
    clear g3 hB3 hK3 g45 far q0 q1 q2 hne hHeld
    clear y0 y1 y2 f0 f1 f2
    generalize ((Wd.setCell ⟨g, qs.length * 3, none⟩ (.int .i64 at_)).setCell ⟨g, qs.length * 3 + 1, none⟩ (.int .i64 (s.f0 - b))).setCell ⟨g, qs.length * 3 + 2, none⟩ (.int .i64 s.f1) = W3 at BG3 HB3 HK3 z45 zf ⊢
    go_wp2_with fail
    go_roundg k1
    case measure => omega
    case rel =>
     have hlt := HLT.out
     refine ⟨0, j + 1, qs ++ [(at_, s.f0 - b, s.f1)], rfl, (by rw [wj]), ⟨m_144⟩, ⟨?_⟩, ⟨(by have := HL.out; rw [List.length_append, List.length_singleton]; omega)⟩, ⟨?_⟩, ⟨(by rw [List.length_append, List.length_singleton]; omega), ?_⟩, ⟨below_set HB3.out HG.out⟩, ⟨keep_setg HK3.out _ _⟩⟩
     ·rw [HE.out, HD.out, addS, if_pos HM.out, List.append_assoc]
      rfl
     ·have h := HO.out
      rw [HD.out] at h
      exact ⟨(by omega), (by omega), fun x hx => h.2.2 x (List.mem_cons_of_mem _ hx)⟩
     ·refine (blk_put BG3.out 45 _ (List.setIfInBounds_toArray ..)).trans ?_
      have e := cellsP_snoc hlt (at_, s.f0 - b, s.f1)
      rw [Nat.mul_comm 3 qs.length] at e
      rw [← e]
   ·by_cases he : s.f0 < b
    ·have m1 : (s.f0 < b) = True := eq_true he
     have wb : wrap64 (b - s.f0) = b - s.f0 := by
      have h := HO.out
      rw [HD.out] at h
      have h2 := h.2.2 s List.mem_cons_self
      have h3 := h.2.1
      exact wrap64_id (by omega) (by omega)
     have HM := Aside0.mk hm
     clear hm he
     go_wp2_with fail
     go_roundg k1
     case measure => omega
     case rel =>
      have hm := HM.out
      have hb := below_alloc (Below.refl wr.heap.size wr) (.cells #[.int .i64 s.f0, .int .i64 s.f1] 99 (0, 0))
      refine ⟨b - s.f0, j + 1, qs, (by first | rfl | rw [wb]), m_133, ⟨m_144⟩, ⟨?_⟩, ⟨(by have := HL.out; omega)⟩, ⟨?_⟩, ⟨HQ.out.1, any_below HQ.out.2 hb⟩, ⟨below_step HB.out hb⟩, ⟨Nat.le_trans HKP.out.1 hb.size, fun k hk hne hr => (hb.block k (Nat.lt_of_lt_of_le hk HKP.out.1)).trans (HKP.out.2 k hk hne hr)⟩⟩
      ·rw [HE.out, HD.out, addS, if_neg (by omega)]
      ·have h := HO.out
       rw [HD.out] at h
       have h2 := h.2.2 s List.mem_cons_self
       have h1 := h.1
       have h3 := h.2.1
       exact ⟨(by omega), (by omega), fun x hx => h.2.2 x (List.mem_cons_of_mem _ hx)⟩
    ·obtain rfl : b = s.f0 := by omega
     have w00 : wrap64 0 = 0 := wrap64_id (by omega) (by omega)
     have HM := Aside0.mk hm
     clear hm he
     go_wp2_with fail
     go_roundg k1
     case measure => omega
     case rel =>
      have hm := HM.out
      have hb := below_alloc (Below.refl wr.heap.size wr) (.cells #[.int .i64 s.f0, .int .i64 s.f1] 99 (0, 0))
      refine ⟨0, j + 1, qs, (by first | rfl | rw [w00] | simp [w00]), m_133, ⟨m_144⟩, ⟨?_⟩, ⟨(by have := HL.out; omega)⟩, ⟨?_⟩, ⟨HQ.out.1, any_below HQ.out.2 hb⟩, ⟨below_step HB.out hb⟩, ⟨Nat.le_trans HKP.out.1 hb.size, fun k hk hne hr => (hb.block k (Nat.lt_of_lt_of_le hk HKP.out.1)).trans (HKP.out.2 k hk hne hr)⟩⟩
      ·rw [HE.out, HD.out, addS, if_neg (by omega)]
       rw [Int.sub_self]
      ·have h := HO.out
       rw [HD.out] at h
       have h2 := h.2.2 s List.mem_cons_self
       have h1 := h.1
       have h3 := h.2.1
       exact ⟨(by omega), (by omega), fun x hx => h.2.2 x (List.mem_cons_of_mem _ hx)⟩
  ·have hz : l2.drop j = [] := List.drop_eq_nil_of_le (by omega)
   have qj : decide ((j : Int) < (l2.length : Int)) = false := decide_eq_false (by omega)
   have qj2 : decide (j < l2.length) = false := decide_eq_false hj
   have qj3 : ((j : Int) < (l2.length : Int)) = False := eq_false (by omega)
   have qj4 : (j < l2.length) = False := eq_false hj
   have HZ := Aside0.mk hz
   clear hz hj
   go_wp2_with fail
   go_end0
   refine ⟨rfl, ?_, HB.out, HKP.out⟩
   rw [HE.out, HZ.out, addS, List.append_nil]
   exact HQ.out
end Go.Proofs.Ytelklgdmhnkenaa.U
namespace Go.Proofs.Ytelklgdmhnkenaa.U
open Go.Proofs Go.Shelf Go.RowKit Go.Lib Go.Sort Go.Proofs.YtelklgdmhnkenaaW.PrintWords Go.Proofs.YtelklgdmhnkenaaW.PrintLast Go.Proofs.YtelklgdmhnkenaaW.PrintMore
def cfP (x y : Pc) : Int := if Lib.compareInt x.2.2 y.2.2 = 0 then Lib.compareInt y.1 x.1 else Lib.compareInt x.2.2 y.2.2
def Gr (W W' : World) : Prop := ∃ q os, W' = grow (W.drewN q) os
theorem Gr.refl (W : World) : Gr W W := ⟨0, #[], (by rw [grow_empty]; rfl)⟩
theorem Gr.drewN {W W' : World} (h : Gr W W') (m : Nat) : Gr W (W'.drewN m) := by
 obtain ⟨q, os, rfl⟩ := h
 exact ⟨q + m, os, (by rw [← World.drewN_drewN]; rfl)⟩
theorem Gr.drew {W W' : World} (h : Gr W W') : Gr W W'.drew := h.drewN 1
theorem Gr.alloc {W W' : World} (h : Gr W W') (o : Obj) : Gr W (W'.alloc o) := by
 obtain ⟨q, os, rfl⟩ := h
 exact ⟨q, os ++ #[o], (by rw [alloc_eq_grow, grow_grow])⟩
theorem Gr.drawn {W W' W2 : World} (h : Gr W W') (hd : Drawn0 W' W2) : Gr W W2 := by
 obtain ⟨m, rfl⟩ := hd
 exact h.drewN m
theorem cmp64 (a b : Int) : cmp_Compare_int64.f a b = some (Lib.compareInt a b) := by
 unfold cmp_Compare_int64.f cmp_isNaN_int64.f Lib.compareInt
 simp
 split
 ·rfl
 ·split <;> rfl
theorem cmpI (a b : Int) : cmp_Compare_int.f a b = some (Lib.compareInt a b) := by
 unfold cmp_Compare_int.f cmp_isNaN_int.f Lib.compareInt
 simp
 split
 ·rfl
 ·split <;> rfl
theorem or2 (a b : Int) : cmp_Or_int.f 9 [a, b] = some (if a = 0 then b else a) := by
 unfold cmp_Or_int.f
 by_cases ha : a = 0
 ·subst ha
  by_cases hb : b = 0
  ·subst hb
   simp [cmp_Or_int.l0, YtelklgdmhnkenaaW.PrintWords.rd, wrap64]
  ·simp [cmp_Or_int.l0, YtelklgdmhnkenaaW.PrintWords.rd, wrap64, hb]
 ·simp [cmp_Or_int.l0, YtelklgdmhnkenaaW.PrintWords.rd, wrap64, ha]
theorem two_reads {w : World} {g : Nat} {a b : Int} (h : w.heap[g]? = some (.cells #[.int .i64 a, .int .i64 b] 3 (0, 0))) : Kd.C (Kd.int .i64) w (some ⟨g, 0, none⟩) 2 [a, b] := by
 refine ⟨rfl, (by decide), fun _ => ⟨_, rfl, fun j p hp => ?_⟩⟩
 match j, hp with
 | 0, hp => obtain rfl := Option.some.inj hp; exact ⟨[.int .i64 a], rfl, rfl, fun i u hu => by match i, hu with | 0, hu => (obtain rfl := Option.some.inj hu; exact blk_cell h 0)⟩
 | 1, hp => obtain rfl := Option.some.inj hp; exact ⟨[.int .i64 b], rfl, rfl, fun i u hu => by match i, hu with | 0, hu => (obtain rfl := Option.some.inj hu; exact blk_cell h 1)⟩
 | j + 2, hp => cases hp
set_option maxHeartbeats 8000000 in
set_option maxRecDepth 100000 in
theorem closure70 (x y : Pc) (W : World) : Calls Try.prog 70 #[.agg #[.int .i64 x.1, .int .i64 x.2.1, .int .i64 x.2.2], .agg #[.int .i64 y.1, .int .i64 y.2.1, .int .i64 y.2.2]] W fun e w' => e = .returned (.int .i64 (cfP x y)) ∧ Gr W w' := by
 obtain ⟨c1_, h1⟩ : ∃ c, c = Lib.compareInt x.2.2 y.2.2 := ⟨_, rfl⟩
 obtain ⟨c2_, h2⟩ : ∃ c, c = Lib.compareInt y.1 x.1 := ⟨_, rfl⟩
 have H1 := Aside0.mk (cmp64 x.2.2 y.2.2)
 have H2 := Aside0.mk (cmpI y.1 x.1)
 have H3 := Aside0.mk (or2 c1_ c2_)
 rw [← h1] at H1
 rw [← h2] at H2
 obtain ⟨kk, hkk⟩ : ∃ k, k = 9 := ⟨_, rfl⟩
 rw [← hkk] at H3
 have e : cfP x y = if c1_ = 0 then c2_ else c1_ := by unfold cfP; rw [h1, h2]
 rw [e]
 obtain ⟨r, hr⟩ : ∃ r, r = if c1_ = 0 then c2_ else c1_ := ⟨_, rfl⟩
 rw [← hr] at H3 ⊢
 clear h1 h2 hkk e hr
 have hu84 := Try.underlying84
 go_enter Try.func70, Try.ntmps70
 go_upto_region 1 with (fail)
 refine wp_gen (F := fun Wk => Wk.heap[W.heap.size]? = some (.cells #[.int .i64 x.1, .int .i64 x.2.1, .int .i64 x.2.2] 84 (0, 0)) ∧ Wk.heap[W.heap.size + 1]? = some (.cells #[.int .i64 y.1, .int .i64 y.2.1, .int .i64 y.2.2] 84 (0, 0)) ∧ Gr W Wk) ?_ ?_
 ·have a1 := blk_new W (.cells #[.int .i64 x.1, .int .i64 x.2.1, .int .i64 x.2.2] 84 (0, 0))
  have a2 := blk_new (W.alloc (.cells #[.int .i64 x.1, .int .i64 x.2.1, .int .i64 x.2.2] 84 (0, 0))) (.cells #[.int .i64 y.1, .int .i64 y.2.1, .int .i64 y.2.2] 84 (0, 0))
  rw [show (W.alloc (.cells #[.int .i64 x.1, .int .i64 x.2.1, .int .i64 x.2.2] 84 (0, 0))).heap.size = W.heap.size + 1 by simp] at a2
  exact ⟨any_below a1 (below_alloc (Below.refl _ _) _), a2, ((Gr.refl W).alloc _).alloc _⟩
 rintro Wk ⟨m0, m1, m2⟩
 obtain ⟨ga, hga⟩ : ∃ g, g = W.heap.size := ⟨_, rfl⟩
 obtain ⟨gb, hgb⟩ : ∃ g, g = W.heap.size + 1 := ⟨_, rfl⟩
 rw [← hgb] at m1 ⊢
 rw [← hga] at m0 ⊢
 clear hga hgb
 have BA := Aside0.mk (blk_drew m0)
 have BB := Aside0.mk (blk_drew m1)
 have HG := Aside0.mk m2.drew
 clear m0 m1 m2
 refine start_ (n := 13) (S := fun w' => w'.cell? ⟨ga, 0, none⟩ = some (.int .i64 x.1) ∧ w'.cell? ⟨ga, 2, none⟩ = some (.int .i64 x.2.2) ∧ w'.cell? ⟨gb, 0, none⟩ = some (.int .i64 y.1) ∧ w'.cell? ⟨gb, 2, none⟩ = some (.int .i64 y.2.2)) (ds := []) #[false, false, false, false, false, false, false, false, false, false, false, false, false] m_19 rfl rfl ⟨(blk_cell BA.out 0).trans rfl, (blk_cell BA.out 2).trans rfl, (blk_cell BB.out 0).trans rfl, (blk_cell BB.out 2).trans rfl⟩ (fun hHeld => ?_)
 generalize Wk.drew = Wd at BA BB HG hHeld ⊢
 refine pB_ 0 ?_
 refine pB_ 2 ?_
 refine pB_ 5 ?_
 refine pB_ 7 ?_
 refine tB_ 1 hHeld ?_
 refine tB_ 3 hHeld ?_
 refine tB_ 6 hHeld ?_
 refine tB_ 8 hHeld ?_
 refine one_ (i := 4) (N := some 9) #[true, true, true, true, true, true, true, true, true, false, false, false, false] rfl rfl m_19 (by decide) (fun K hK => ?_)
 refine goes_ Try.func72 m_19 rfl #[.int .i64 x.2.2, .int .i64 y.2.2] (by rfl) rfl rfl m_31 ?_
 refine (cmp_Compare_int64.calls _ _ _ _ H1.out).mono ?_
 rintro e w1 ⟨rfl, hd⟩
 refine ⟨_, rfl, ?_⟩
 have hb := hd.below
 replace BA := Aside0.mk (any_below BA.out hb)
 replace BB := Aside0.mk (any_below BB.out hb)
 replace HG := Aside0.mk (HG.out.drawn hd)
 clear hb hd
 refine hK.out _ _ ⟨(blk_cell BA.out 0).trans rfl, (blk_cell BA.out 2).trans rfl, (blk_cell BB.out 0).trans rfl, (blk_cell BB.out 2).trans rfl⟩ (fun hHeld => ?_)
 clear hK K
 refine norm_ (a' := ?_) ?_ ?_
 rotate_left
 ·show Act.put _ (some 9) _ = _
  simp only [Act.put, List.setIfInBounds_toArray, List.set_cons_zero, List.set_cons_succ, i64_w, i32_w]
  rfl
 refine one_ (i := 9) (N := some 14) #[true, true, true, true, true, true, true, true, true, true, false, false, false] rfl rfl m_19 (by decide) (fun K hK => ?_)
 refine goes_ Try.func73 m_19 rfl #[.int .i64 y.1, .int .i64 x.1] (by rfl) rfl rfl m_31 ?_
 refine (cmp_Compare_int.calls _ _ _ _ H2.out).mono ?_
 rintro e w2 ⟨rfl, hd⟩
 refine ⟨_, rfl, ?_⟩
 have hb := hd.below
 replace BA := Aside0.mk (any_below BA.out hb)
 replace BB := Aside0.mk (any_below BB.out hb)
 replace HG := Aside0.mk (HG.out.drawn hd)
 clear hb hd
 refine hK.out _ _ ⟨(blk_cell BA.out 0).trans rfl, (blk_cell BA.out 2).trans rfl, (blk_cell BB.out 0).trans rfl, (blk_cell BB.out 2).trans rfl⟩ (fun hHeld => ?_)
 clear hK K
 refine norm_ (a' := ?_) ?_ ?_
 rotate_left
 ·show Act.put _ (some 14) _ = _
  simp only [Act.put, List.setIfInBounds_toArray, List.set_cons_zero, List.set_cons_succ, i64_w, i32_w]
  rfl
 refine one_ (i := 10) (N := some 15) #[true, true, true, true, true, true, true, true, true, true, true, false, false] rfl rfl m_19 (by decide) (fun K hK => ?_)
 refine value_ (w1 := w2.alloc (.cells #[.int .i64 c1_, .int .i64 c2_] 3 (0, 0))) (v := .slice (some ⟨w2.heap.size, 0, none⟩) 2 2) (by rfl) rfl ?_ ?_
 ·go_simp
 have hb := below_alloc (Below.refl w2.heap.size w2) (.cells #[.int .i64 c1_, .int .i64 c2_] 3 (0, 0))
 have BC := Aside0.mk (blk_new w2 (.cells #[.int .i64 c1_, .int .i64 c2_] 3 (0, 0)))
 replace BA := Aside0.mk (any_below BA.out hb)
 replace BB := Aside0.mk (any_below BB.out hb)
 replace HG := Aside0.mk (HG.out.alloc (.cells #[.int .i64 c1_, .int .i64 c2_] 3 (0, 0)))
 clear hb
 obtain ⟨gc, hgc⟩ : ∃ gc, gc = w2.heap.size := ⟨_, rfl⟩
 rw [← hgc] at BC ⊢
 clear hgc
 generalize w2.alloc (.cells #[.int .i64 c1_, .int .i64 c2_] 3 (0, 0)) = w3 at BA BB BC HG ⊢
 refine hK.out _ _ ⟨(blk_cell BA.out 0).trans rfl, (blk_cell BA.out 2).trans rfl, (blk_cell BB.out 0).trans rfl, (blk_cell BB.out 2).trans rfl⟩ (fun hHeld => ?_)
 clear hK K
 refine norm_ (a' := ?_) ?_ ?_
 rotate_left
 ·show Act.put _ (some 15) _ = _
  simp only [Act.put, List.setIfInBounds_toArray, List.set_cons_zero, List.set_cons_succ, i64_w, i32_w]
  rfl
 refine one_ (i := 11) (N := some 16) #[true, true, true, true, true, true, true, true, true, true, true, true, false] rfl rfl m_19 (by decide) (fun K hK => ?_)
 refine goes_ Try.func71 m_19 rfl #[.slice (some ⟨gc, 0, none⟩) 2 2] (by rfl) rfl rfl m_31 ?_
 refine (cmp_Or_int.calls kk _ 2 [c1_, c2_] _ _ (two_reads BC.out) (Nat.le_refl _) H3.out).mono ?_
 rintro e w4 ⟨rfl, hd⟩
 refine ⟨_, rfl, ?_⟩
 have hb := hd.below
 replace BA := Aside0.mk (any_below BA.out hb)
 replace BB := Aside0.mk (any_below BB.out hb)
 replace HG := Aside0.mk (HG.out.drawn hd)
 clear hb hd
 refine hK.out _ _ ⟨(blk_cell BA.out 0).trans rfl, (blk_cell BA.out 2).trans rfl, (blk_cell BB.out 0).trans rfl, (blk_cell BB.out 2).trans rfl⟩ (fun hHeld => ?_)
 clear hK K
 refine norm_ (a' := ?_) ?_ ?_
 rotate_left
 ·show Act.put _ (some 16) _ = _
  simp only [Act.put, List.setIfInBounds_toArray, List.set_cons_zero, List.set_cons_succ, i64_w, i32_w]
  rfl
 refine pB_ 12 ?_
 refine done_ m_19 ?_
 go_wp2_with fail
 go_ret
 exact ⟨rfl, HG.out⟩
end Go.Proofs.Ytelklgdmhnkenaa.U
namespace Go.Proofs.Ytelklgdmhnkenaa.U
open Go.Proofs Go.Shelf Go.RowKit Go.Lib Go.Sort Go.Proofs.YtelklgdmhnkenaaW.PrintWords Go.Proofs.YtelklgdmhnkenaaW.PrintLast Go.Proofs.YtelklgdmhnkenaaW.PrintMore
def z84 : Pc := (0, 0, 0)
theorem flat_get : ∀ (qs : List Pc) (t : Nat), t < 3 * qs.length → (qs.flatMap pcell)[t]? = (pcell (qs.getD (t / 3) z84))[t % 3]?
 | [], t, h => by simp at h
 | p :: l, t, h => by
  rw [List.flatMap_cons]
  by_cases ht : t < 3
  ·rw [List.getElem?_append_left (by simp [pcell]; omega), Nat.div_eq_of_lt ht, Nat.mod_eq_of_lt ht]
   rfl
  ·rw [List.getElem?_append_right (by simp [pcell]; omega)]
   have e : (pcell p).length = 3 := rfl
   rw [e, flat_get l (t - 3) (by simp at h; omega)]
   obtain ⟨m, rfl⟩ : ∃ m, t = m + 3 := ⟨t - 3, (by omega)⟩
   rw [Nat.add_sub_cancel, show (m + 3) / 3 = m / 3 + 1 by omega, show (m + 3) % 3 = m % 3 by omega]
   rfl
theorem cellsP_lo {qs : List Pc} {t : Nat} (h : t < 3 * qs.length) : (cellsP qs)[t]? = (pcell (qs.getD (t / 3) z84))[t % 3]? := by
 unfold cellsP
 rw [List.getElem?_append_left (by rw [flat_len]; exact h), flat_get qs t h]
theorem cellsP_hi {qs qs' : List Pc} {t : Nat} (e : qs'.length = qs.length) (h : 3 * qs.length ≤ t) : (cellsP qs')[t]? = (cellsP qs)[t]? := by
 unfold cellsP
 rw [List.getElem?_append_right (l₁ := qs'.flatMap pcell) (by rw [flat_len]; omega), List.getElem?_append_right (l₁ := qs.flatMap pcell) (by rw [flat_len]; omega), flat_len, flat_len, e]
instance : Inhabited Pc := ⟨z84⟩
theorem holds_P {w : World} {g : Nat} {qs : List Pc} (h : w.heap[g]? = some (.cells (cellsP qs).toArray 87 (0, 0))) (hn : qs.length ≤ 15) : HoldsK pcell 3 w g 0 qs.toArray := by
 intro j hj
 have hj' : j < 3 * qs.length := by simpa [Nat.mul_comm] using hj
 refine ⟨?_, blk_frozen h _⟩
 rw [blk_cell h, Nat.zero_add, List.getElem?_toArray, cellsP_lo hj', get_flatK _ _ _ _ (by simpa using hj)]
 have hq : j / 3 < qs.length := by omega
 have e1 : qs.getD (j / 3) z84 = qs[j / 3] := by simp [hq]
 have e2 : qs.toArray[j / 3]! = qs[j / 3] := by simp [hq]
 rw [e1, e2]
 have h3 : j % 3 < (pcell qs[j / 3]).length := by have : (pcell qs[j / 3]).length = 3 := rfl; omega
 rw [List.getElem?_eq_getElem h3]
 simp [h3]
theorem put_P {qs : List Pc} {d : Array Pc} (hd : d.size = qs.length) (hn : qs.length ≤ 15) : putCells id 0 (flatK pcell 3 d) (cellsP qs).toArray = (cellsP d.toList).toArray := by
 apply Array.ext_getElem?
 intro t
 have hl : d.toList.length = qs.length := by simpa using hd
 unfold putCells
 rw [Array.getElem?_mapIdx, List.getElem?_toArray, List.getElem?_toArray]
 by_cases ht : t < 3 * qs.length
 ·have h1 : (0 ≤ t ∧ t < 0 + (flatK pcell 3 d).size) := ⟨(by omega), (by rw [size_flatK]; omega)⟩
  rw [cellsP_lo ht, cellsP_lo (by rw [hl]; exact ht)]
  have hq : t / 3 < qs.length := by omega
  have h3 : t % 3 < 3 := by omega
  have e2 : d.toList.getD (t / 3) z84 = d[t / 3]! := by simp [hd, hq]
  have a3 : ∀ x : Pc, t % 3 < (pcell x).length := fun x => h3
  rw [List.getElem?_eq_getElem (a3 _), List.getElem?_eq_getElem (a3 _), Option.map_some, if_pos h1, Nat.sub_zero, get_flatK _ _ _ _ (by omega), e2]
  simp [a3]
 ·have h1 : ¬ (0 ≤ t ∧ t < 0 + (flatK pcell 3 d).size) := by rw [size_flatK]; omega
  rw [cellsP_hi (qs' := d.toList) hl (by omega)]
  cases hc : (cellsP qs)[t]? with
  | none => rfl
  | some v => rw [Option.map_some, if_neg h1]
theorem ltP (x y : Pc) : ltOf cfP x y = true ↔ x.2.2 < y.2.2 ∨ (x.2.2 = y.2.2 ∧ y.1 < x.1) := by
 unfold ltOf cfP Lib.compareInt
 rw [decide_eq_true_iff]
 split <;> split <;> (try split) <;> (try split) <;> omega
theorem ltP_f (x y : Pc) : ltOf cfP x y = false ↔ ¬ (x.2.2 < y.2.2 ∨ (x.2.2 = y.2.2 ∧ y.1 < x.1)) := by
 rw [← ltP, Bool.not_eq_true]
theorem swoP : SWO (ltOf cfP) where
 irrefl x := by rw [ltP_f]; omega
 trans x y z h1 h2 := by rw [ltP] at *; omega
 ntrans x y z h1 h2 := by rw [ltP_f] at *; omega
theorem cmpLays (blk off size : Nat) (w : World) : CmpLays Try.prog 70 #[] pcell 3 cfP blk off size w :=
 fun _ _ _ _ x y => closure70 x y _
theorem sorted_world {w : World} {g n : Nat} {qs : List Pc} {d : Array Pc} {os : Array Obj} (h : w.heap[g]? = some (.cells (cellsP qs).toArray 87 (0, 0))) (hn : qs.length ≤ 15) (hd : d.size = qs.length) :
  (sortWorldK pcell 3 w g 0 n d os).heap[g]? = some (.cells (cellsP d.toList).toArray 87 (0, 0)) ∧ KeepBut w (sortWorldK pcell 3 w g 0 n d os) g none ∧ (∀ B, B ≤ g → Go.RowKit.Below B w (sortWorldK pcell 3 w g 0 n d os)) := by
 have hl := blk_lt h
 have hh : (sortWorldK pcell 3 w g 0 n d os).heap = w.heap.modify g (onCells (putCells id 0 (flatK pcell 3 d))) ++ os := rfl
 have hs : (w.heap.modify g (onCells (putCells id 0 (flatK pcell 3 d)))).size = w.heap.size := by simp
 have old : ∀ k, k < w.heap.size → k ≠ g → (sortWorldK pcell 3 w g 0 n d os).heap[k]? = w.heap[k]? := by
  intro k hk hne
  rw [hh, Array.getElem?_append_left (by rw [hs]; exact hk), Array.getElem?_modify, if_neg (Ne.symm hne)]
 have size : w.heap.size ≤ (sortWorldK pcell 3 w g 0 n d os).heap.size := by rw [hh, Array.size_append, hs]; omega
 refine ⟨?_, ⟨size, fun k hk hne _ => old k hk hne⟩, fun B hB => ⟨rfl, rfl, rfl, size, fun k hk => ?_⟩⟩
 ·rw [hh, Array.getElem?_append_left (by rw [hs]; exact hl), Array.getElem?_modify, if_pos rfl, h]
  simp only [Option.map_some, onCells]
  rw [put_P hd hn]
 ·by_cases hk2 : k < w.heap.size
  ·exact old k hk2 (by omega)
  ·omega
set_option maxHeartbeats 8000000 in
set_option maxRecDepth 100000 in
theorem pieces_row_calls (w0 : World) (g : Nat) (qs : List Pc) (w : World) (hb0 : Go.RowKit.Below w0.heap.size w0 w) (hg : w0.heap.size ≤ g) (hP : PB w g qs) :
  Calls Try.prog 56 #[.pointer (some ⟨g, 0, none⟩)] w fun e w' => ∃ rs : List Pc, e = .returned (.slice (some ⟨g, 0, none⟩) rs.length 15) ∧ rs.Perm qs ∧ rs.Pairwise (fun x y => ltOf cfP y x = false) ∧ PB w' g rs ∧ Go.RowKit.Below w0.heap.size w0 w' ∧ KeepBut w w' g none := by
 have HN := Aside0.mk hP.1
 have HP := Aside0.mk hP.2
 have HB0 := Aside0.mk hb0
 have HG := Aside0.mk hg
 clear hP hb0 hg
 have hu87 := Try.underlying87
 have hu85 := Try.underlying85
 have hu84 := Try.underlying84
 go_enter Try.func56, Try.ntmps56
 go_upto_region 1 with (fail)
 refine wp_gen (F := fun Wk => Wk.heap[g]? = some (.cells (cellsP qs).toArray 87 (0, 0)) ∧ Go.RowKit.Below w0.heap.size w0 Wk ∧ KeepBut w Wk g none) ⟨HP.out, HB0.out, KeepBut.refl w g none⟩ ?_
 rintro Wk ⟨m1, m2, m3⟩
 have BG := Aside0.mk (blk_drew m1)
 have HB := Aside0.mk (below_drew1 m2)
 have HKP := Aside0.mk (show KeepBut w Wk.drew g none from m3)
 clear m1 m2 m3
 have hn := HN.out
 have r1 : ((qs.length : Int) ≤ 15) = True := eq_true (by omega)
 have r2 : (qs.length ≤ 15) = True := eq_true hn
 have r0 : (0 ≤ (qs.length : Int)) = True := eq_true (by omega)
 have d1 : decide ((qs.length : Int) ≤ 15) = true := decide_eq_true (by omega)
 have d2 : decide (qs.length ≤ 15) = true := decide_eq_true hn
 clear hn
 refine start_ (n := 9) (S := fun w' => w'.cell? ⟨g, 45, none⟩ = some (.int .i64 qs.length)) (ds := []) #[false, false, false, false, false, false, false, false, false] m_19 rfl rfl ((blk_cell BG.out 45).trans ((List.getElem?_toArray ..).trans (cellsP_n HN.out))) (fun hHeld => ?_)
 generalize Wk.drew = Wd at BG HB HKP hHeld ⊢
 refine pB_ 0 ?_
 refine pB_ 1 ?_
 refine pB_ 2 ?_
 refine pB_ 3 ?_
 refine pB_ 4 ?_
 refine pB_ 5 ?_
 refine take_ (i := 6) (N := some 10) (v := ?_) (a' := ?_) #[true, true, true, true, true, true, true, false, false] rfl rfl m_19 (fun _ _ _ h => h) (Or.inl ⟨(by rfl), ?_⟩) hHeld ?_ ?_
 rotate_left
 ·intro w' s0
  go_simp
  with_reducible rfl
 rotate_left
 ·simp only [Act.put, List.setIfInBounds_toArray, List.set_cons_zero, List.set_cons_succ, i64_w, i32_w]
  rfl
 refine pB_ 7 ?_
 refine pB_ 8 ?_
 refine done_ m_19 ?_
 have eg : ∀ args w, (callFunc 70 args).run Try.prog w = .ok (.enter 70 args) w := enters_of Try.func70 m_19 rfl
 have hcon := AnyQ.slices_SortFunc sortPc 3 (fun _ => by kernel_rfl) (fun _ => by kernel_rfl) pcell (fun _ => rfl) (fun x v hv => by simp [pcell] at hv; rcases hv with rfl | rfl | rfl <;> rfl) cfP swoP 70 #[] g 0 15 qs.toArray Wd eg (cmpLays g 0 qs.toArray.size Wd) (holds_P BG.out HN.out) (blk_lt BG.out) (by have := HN.out; simp; omega)
 change Calls Try.prog 69 _ _ _ at hcon
 rw [List.size_toArray] at hcon
 have HC := Aside0.mk hcon
 clear hcon eg
 go_wp2_with (go_at_call 69; refine HC.out.mono ?_; rintro e w' ⟨rfl, d', m, os, hp, hs, rfl⟩)
 obtain ⟨p1, p2, p3⟩ := hp
 have hd : d'.size = qs.length := by rw [p1]; simp
 have hw := sorted_world (n := m) (os := os) BG.out HN.out hd
 have e1 : (d'.extract 0 qs.length).toList = d'.toList := by rw [← hd]; simp
 have e2 : (qs.toArray.extract 0 qs.length).toList = qs := by simp
 rw [e1, e2] at p3
 have hl : d'.toList.length = qs.length := by simpa using hd
 have hpw : d'.toList.Pairwise (fun x y => ltOf cfP y x = false) := by
  rw [List.pairwise_iff_getElem]
  intro i j hi hj hij
  have h := hs i j (Nat.zero_le _) hij (by rw [hl] at hj; exact hj)
  have hi2 : i < d'.size := by simpa using hi
  have hj2 : j < d'.size := by simpa using hj
  rw [getElem!_pos d' j hj2, getElem!_pos d' i hi2] at h
  exact h
 have R := Aside0.mk (And.intro p3 (And.intro hpw hw))
 have HL := Aside0.mk hl
 clear hpw hw p1 p2 p3 hs e1 e2 hl
 rw [← HL.out]
 go_ret
 exact ⟨d'.toList, rfl, R.out.1, R.out.2.1, ⟨(by rw [HL.out]; exact HN.out), R.out.2.2.1⟩, HB.out.trans (R.out.2.2.2.2 _ HG.out), HKP.out.trans R.out.2.2.2.1 (.inl rfl)⟩
def lePc (x y : Pc) : Bool := !(Go.Proofs.ltOf cfP y x)
def piecesOf : Nat → List S24 → List Bool → List Pc
  | i, u :: us, b :: bs => (if b then addS i u.f1 u.f2 else []) ++ piecesOf (i + 1) us bs
  | _, _, _ => []
def fillR : Nat → List S24 → List Bool → List Int → List Int
  | i, u :: us, b :: bs, row => fillR (i + 1) us bs (if b then row.set i u.f1 else row)
  | _, _, _, row => row
def takeP : Int → List Pc → List Int → List Int
  | _, [], row => row
  | left, p :: l, row => takeP (left - mn left p.2.1) l (row.set p.1.toNat (rd row p.1 + mn left p.2.1))
def srtP (l : List Pc) : List Pc := l.mergeSort lePc
def risB : List S99 → Bool
  | x :: y :: l => decide (x.f1 < y.f1) && risB (y :: l)
  | _ => true
def goodU (u : S24) : Bool := decide (u.f2.length ≤ 3) && decide (0 ≤ u.f1) && decide (u.f1 ≤ 1000000000) && u.f2.all (fun s => decide (0 ≤ s.f0) && decide (s.f0 ≤ 1000000000)) && risB u.f2
def goodA (l0 : List S24) (l1 : List Bool) (left : Int) : Bool := decide (l0.length ≤ 5) && decide (l1.length = l0.length) && l0.all goodU && decide (0 ≤ left) && decide (left ≤ 100000000000)
def allocRow (l0 : List S24) (l1 : List Bool) (left : Int) : List Int := takeP left (srtP (piecesOf 0 l0 l1)) (fillR 0 l0 l1 (List.replicate l0.length 0))
theorem lePc_t (x y : Pc) : lePc x y = true ↔ ¬ (y.2.2 < x.2.2 ∨ (y.2.2 = x.2.2 ∧ x.1 < y.1)) := by
  unfold lePc
  rw [← ltP, Bool.not_eq_true', ← Bool.not_eq_true]
def Pre (x y : Pc) : Prop := x.1 < y.1 ∨ (x.1 = y.1 ∧ x.2.2 < y.2.2)
theorem ris_tail {x : S99} {l : List S99} (h : risB (x :: l) = true) : risB l = true := by
  cases l with
  | nil => rfl
  | cons y l => simp [risB] at h; exact h.2
theorem ris_lt {x : S99} : ∀ {l : List S99}, risB (x :: l) = true → ∀ s ∈ l, x.f1 < s.f1
  | [], _, s, hs => by cases hs
  | y :: l, h, s, hs => by
    simp [risB] at h
    rcases List.mem_cons.1 hs with rfl | hs
    · exact h.1
    · have := ris_lt h.2 s hs
      omega
theorem addS_mem (a : Int) : ∀ (b : Int) (l : List S99), 0 ≤ b → (∀ s ∈ l, 0 ≤ s.f0 ∧ s.f0 ≤ 1000000000) → ∀ p ∈ addS a b l, p.1 = a ∧ 0 < p.2.1 ∧ p.2.1 ≤ 1000000000 ∧ ∃ s ∈ l, p.2.2 = s.f1
  | _, [], _, _, p, hp => by cases hp
  | b, s :: l, hb, h, p, hp => by
    have hs := h s List.mem_cons_self
    have h' : ∀ x ∈ l, 0 ≤ x.f0 ∧ x.f0 ≤ 1000000000 := fun x hx => h x (List.mem_cons_of_mem _ hx)
    unfold addS at hp
    split at hp
    · rcases List.mem_cons.1 hp with rfl | hp
      · exact ⟨rfl, by simp; omega, by simp; omega, s, List.mem_cons_self, rfl⟩
      · obtain ⟨h1, h2, h3, x, hx, h4⟩ := addS_mem a 0 l (by omega) h' p hp
        exact ⟨h1, h2, h3, x, List.mem_cons_of_mem _ hx, h4⟩
    · obtain ⟨h1, h2, h3, x, hx, h4⟩ := addS_mem a (b - s.f0) l (by omega) h' p hp
      exact ⟨h1, h2, h3, x, List.mem_cons_of_mem _ hx, h4⟩
theorem addS_pre (a : Int) : ∀ (b : Int) (l : List S99), 0 ≤ b → (∀ s ∈ l, 0 ≤ s.f0 ∧ s.f0 ≤ 1000000000) → risB l = true → (addS a b l).Pairwise Pre
  | _, [], _, _, _ => List.Pairwise.nil
  | b, s :: l, hb, h, hr => by
    have h' : ∀ x ∈ l, 0 ≤ x.f0 ∧ x.f0 ≤ 1000000000 := fun x hx => h x (List.mem_cons_of_mem _ hx)
    unfold addS
    split
    · refine List.pairwise_cons.2 ⟨fun p hp => ?_, addS_pre a 0 l (by omega) h' (ris_tail hr)⟩
      obtain ⟨h1, _, _, x, hx, h4⟩ := addS_mem a 0 l (by omega) h' p hp
      exact .inr ⟨h1.symm, by rw [h4]; exact ris_lt hr x hx⟩
    · exact addS_pre a (b - s.f0) l (by omega) h' (ris_tail hr)
theorem good_u {u : S24} (h : goodU u = true) : u.f2.length ≤ 3 ∧ 0 ≤ u.f1 ∧ u.f1 ≤ 1000000000 ∧ (∀ s ∈ u.f2, 0 ≤ s.f0 ∧ s.f0 ≤ 1000000000) ∧ risB u.f2 = true := by
  simp [goodU] at h
  exact ⟨h.1.1.1.1, h.1.1.1.2, h.1.1.2, h.1.2, h.2⟩
theorem pieces_mem : ∀ (i : Nat) (us : List S24) (bs : List Bool), (∀ u ∈ us, goodU u = true) → ∀ p ∈ piecesOf i us bs, (i : Int) ≤ p.1 ∧ p.1 < i + us.length ∧ 0 < p.2.1 ∧ p.2.1 ≤ 1000000000
  | _, [], _, _, p, hp => by simp [piecesOf] at hp
  | _, _ :: _, [], _, p, hp => by simp [piecesOf] at hp
  | i, u :: us, b :: bs, h, p, hp => by
    rw [piecesOf] at hp
    have hu := good_u (h u List.mem_cons_self)
    rcases List.mem_append.1 hp with hp | hp
    · cases b with
      | false => simp at hp
      | true =>
        obtain ⟨h1, h2, h3, _⟩ := addS_mem i u.f1 u.f2 hu.2.1 hu.2.2.2.1 p hp
        rw [h1]
        exact ⟨by omega, by simp; omega, h2, h3⟩
    · obtain ⟨h1, h2, h3, h4⟩ := pieces_mem (i + 1) us bs (fun x hx => h x (List.mem_cons_of_mem _ hx)) p hp
      exact ⟨by omega, by simp; omega, h3, h4⟩
theorem pieces_pre : ∀ (i : Nat) (us : List S24) (bs : List Bool), (∀ u ∈ us, goodU u = true) → (piecesOf i us bs).Pairwise Pre
  | _, [], _, _ => by simp [piecesOf]
  | _, _ :: _, [], _ => by simp [piecesOf]
  | i, u :: us, b :: bs, h => by
    rw [piecesOf]
    have hu := good_u (h u List.mem_cons_self)
    have h' : ∀ x ∈ us, goodU x = true := fun x hx => h x (List.mem_cons_of_mem _ hx)
    refine List.pairwise_append.2 ⟨?_, pieces_pre (i + 1) us bs h', fun x hx y hy => ?_⟩
    · cases b with
      | false => exact List.Pairwise.nil
      | true => exact addS_pre i u.f1 u.f2 hu.2.1 hu.2.2.2.1 hu.2.2.2.2
    · cases b with
      | false => simp at hx
      | true =>
        obtain ⟨h1, _⟩ := addS_mem i u.f1 u.f2 hu.2.1 hu.2.2.2.1 x hx
        obtain ⟨h2, _⟩ := pieces_mem (i + 1) us bs h' y hy
        exact .inl (by omega)
theorem pre_or {l : List Pc} (h : l.Pairwise Pre) : ∀ a ∈ l, ∀ b ∈ l, a = b ∨ Pre a b ∨ Pre b a := by
  induction l with
  | nil => intro a ha; cases ha
  | cons x l ih =>
    obtain ⟨h1, h2⟩ := List.pairwise_cons.1 h
    intro a ha b hb
    rcases List.mem_cons.1 ha with e | ha2 <;> rcases List.mem_cons.1 hb with e2 | hb2
    · exact .inl (e.trans e2.symm)
    · rw [e]; exact .inr (.inl (h1 b hb2))
    · rw [e2]; exact .inr (.inr (h1 a ha2))
    · exact ih h2 a ha2 b hb2
theorem lePc_total (a b : Pc) : (lePc a b || lePc b a) = true := by
  by_cases h : lePc a b = true
  · simp [h]
  · have h2 : lePc b a = true := by rw [lePc_t] at *; omega
    simp [h2]
theorem srt_unique {ps rs : List Pc} (h : ps.Pairwise Pre) (hp : rs.Perm ps) (hw : rs.Pairwise (fun x y => Go.Proofs.ltOf cfP y x = false)) : rs = srtP ps := by
  have hs : (srtP ps).Pairwise (fun x y => lePc x y = true) := List.pairwise_mergeSort (by intro a b c h1 h2; rw [lePc_t] at *; omega) lePc_total ps
  have hq : (srtP ps).Perm ps := List.mergeSort_perm ps lePc
  have hw2 : rs.Pairwise (fun x y => lePc x y = true) := hw.imp (fun {a b} h => by unfold lePc; rw [h]; rfl)
  refine List.Perm.eq_of_pairwise (le := fun x y => lePc x y = true) ?_ hw2 hs (hp.trans hq.symm)
  intro a b ha hb h1 h2
  rw [lePc_t] at h1 h2
  rcases pre_or h a (hp.mem_iff.1 ha) b (hq.mem_iff.1 hb) with h | h | h
  · exact h
  · unfold Pre at h; omega
  · unfold Pre at h; omega
theorem info2 : (Try.prog.info? 2).map (fun i => (i.zero, i.size, i.bytes)) = some (some (.int .i64 0), 1, 8) := by kernel_rfl
def exU : List S24 := [⟨0, 2, [⟨5, 1⟩, ⟨4, 3⟩], 1, 1, 0, 0, 0, 1⟩, ⟨0, 0, [⟨3, 2⟩, ⟨3, 3⟩], 1, 1, 0, 0, 0, 1⟩]
def pylonlaw28_ex.f : Option (List S24) := some exU
theorem two_steps {w : World} {g : Nat} {a b c d : Int} (h : w.heap[g]? = some (.cells #[.int .i64 a, .int .i64 b, .int .i64 c, .int .i64 d] 99 (0, 0))) : Kd.C k99 w (some ⟨g, 0, none⟩) 2 [⟨a, b⟩, ⟨c, d⟩] := by
 refine ⟨rfl, (by decide), fun _ => ⟨_, rfl, fun j p hp => ?_⟩⟩
 match j, hp with
 | 0, hp =>
  obtain rfl := Option.some.inj hp
  refine ⟨[.int .i64 a, .int .i64 b], rfl, k99_mk w _, fun i u hu => ?_⟩
  match i, hu with
  | 0, hu => obtain rfl := Option.some.inj hu; exact blk_cell h 0
  | 1, hu => obtain rfl := Option.some.inj hu; exact blk_cell h 1
 | 1, hp =>
  obtain rfl := Option.some.inj hp
  refine ⟨[.int .i64 c, .int .i64 d], rfl, k99_mk w _, fun i u hu => ?_⟩
  match i, hu with
  | 0, hu => obtain rfl := Option.some.inj hu; exact blk_cell h 2
  | 1, hu => obtain rfl := Option.some.inj hu; exact blk_cell h 3
 | j + 2, hp => cases hp
def exL (g1 g2 : Nat) : Array Value := #[.int .i64 0, .int .i64 2, .slice (some ⟨g1, 0, none⟩) 2 2, .int .i64 1, .int .i64 1, .int .i64 0, .int .i64 0, .int .i64 0, .int .i64 1, .int .i64 0, .int .i64 0, .slice (some ⟨g2, 0, none⟩) 2 2, .int .i64 1, .int .i64 1, .int .i64 0, .int .i64 0, .int .i64 0, .int .i64 1]
theorem two_units {w : World} {g1 g2 g : Nat} (h1 : w.heap[g1]? = some (.cells #[.int .i64 5, .int .i64 1, .int .i64 4, .int .i64 3] 99 (0, 0))) (h2 : w.heap[g2]? = some (.cells #[.int .i64 3, .int .i64 2, .int .i64 3, .int .i64 3] 99 (0, 0))) (h : w.heap[g]? = some (.cells (exL g1 g2) 24 (0, 0))) : Kd.C k24 w (some ⟨g, 0, none⟩) 2 exU := by
 refine ⟨rfl, (by decide), fun _ => ⟨_, rfl, fun j p hp => ?_⟩⟩
 match j, hp with
 | 0, hp =>
  obtain rfl := Option.some.inj hp
  refine ⟨_, rfl, k24_mk w _ (A2 := some ⟨g1, 0, none⟩) (c2 := 2) (Nat.le_refl _) (two_steps h1), fun i u hu => ?_⟩
  match i, hu with
  | 0, hu => obtain rfl := Option.some.inj hu; exact blk_cell h 0
  | 1, hu => obtain rfl := Option.some.inj hu; exact blk_cell h 1
  | 2, hu => obtain rfl := Option.some.inj hu; exact blk_cell h 2
  | 3, hu => obtain rfl := Option.some.inj hu; exact blk_cell h 3
  | 4, hu => obtain rfl := Option.some.inj hu; exact blk_cell h 4
  | 5, hu => obtain rfl := Option.some.inj hu; exact blk_cell h 5
  | 6, hu => obtain rfl := Option.some.inj hu; exact blk_cell h 6
  | 7, hu => obtain rfl := Option.some.inj hu; exact blk_cell h 7
  | 8, hu => obtain rfl := Option.some.inj hu; exact blk_cell h 8
 | 1, hp =>
  obtain rfl := Option.some.inj hp
  refine ⟨_, rfl, k24_mk w _ (A2 := some ⟨g2, 0, none⟩) (c2 := 2) (Nat.le_refl _) (two_steps h2), fun i u hu => ?_⟩
  match i, hu with
  | 0, hu => obtain rfl := Option.some.inj hu; exact blk_cell h 9
  | 1, hu => obtain rfl := Option.some.inj hu; exact blk_cell h 10
  | 2, hu => obtain rfl := Option.some.inj hu; exact blk_cell h 11
  | 3, hu => obtain rfl := Option.some.inj hu; exact blk_cell h 12
  | 4, hu => obtain rfl := Option.some.inj hu; exact blk_cell h 13
  | 5, hu => obtain rfl := Option.some.inj hu; exact blk_cell h 14
  | 6, hu => obtain rfl := Option.some.inj hu; exact blk_cell h 15
  | 7, hu => obtain rfl := Option.some.inj hu; exact blk_cell h 16
  | 8, hu => obtain rfl := Option.some.inj hu; exact blk_cell h 17
 | j + 2, hp => cases hp
theorem five {w : World} (o1 o2 o3 o4 o5 : Obj) : (((((w.alloc o1).alloc o2).alloc o3).alloc o4).alloc o5).heap[w.heap.size]? = some o1 ∧ (((((w.alloc o1).alloc o2).alloc o3).alloc o4).alloc o5).heap[w.heap.size + 1 + 1]? = some o3 ∧ (((((w.alloc o1).alloc o2).alloc o3).alloc o4).alloc o5).heap[w.heap.size + 1 + 1 + 1 + 1]? = some o5 ∧ Below w.heap.size w (((((w.alloc o1).alloc o2).alloc o3).alloc o4).alloc o5) := by
 have s1 : (w.alloc o1).heap.size = w.heap.size + 1 := by simp
 have s2 : ((w.alloc o1).alloc o2).heap.size = w.heap.size + 1 + 1 := by simp
 have s3 : (((w.alloc o1).alloc o2).alloc o3).heap.size = w.heap.size + 1 + 1 + 1 := by simp
 have s4 : ((((w.alloc o1).alloc o2).alloc o3).alloc o4).heap.size = w.heap.size + 1 + 1 + 1 + 1 := by simp
 have a1 := (MapKept.heap_alloc w o1).1
 have a3 := (MapKept.heap_alloc ((w.alloc o1).alloc o2) o3).1
 have a5 := (MapKept.heap_alloc ((((w.alloc o1).alloc o2).alloc o3).alloc o4) o5).1
 rw [s2] at a3
 rw [s4] at a5
 refine ⟨?_, ?_, a5, ((((((Below.refl _ w).alloc (Nat.le_refl _) _).alloc (by omega) _).alloc (by omega) _).alloc (by omega) _).alloc (by omega) _)⟩
 ·rw [Below.heap_alloc _ _ _ (by omega), Below.heap_alloc _ _ _ (by omega), Below.heap_alloc _ _ _ (by omega), Below.heap_alloc _ _ _ (by omega)]
  exact a1
 ·rw [Below.heap_alloc _ _ _ (by omega), Below.heap_alloc _ _ _ (by omega)]
  exact a3
set_option maxHeartbeats 8000000 in
set_option maxRecDepth 100000 in
theorem pylonlaw28_ex.calls (r : List S24) (w : World) (h : pylonlaw28_ex.f = some r) :
  Calls Try.prog 51 #[] w fun e w' => ∃ v0_ : Value, e = .returned v0_ ∧ Kd.V k24 24 w' w.heap.size (fun k_ => (w.heap.size ≤ k_)) v0_ r ∧ Below w.heap.size w w' := by
 obtain rfl := Option.some.inj h
 clear h
 have hu24 := Try.underlying24
 have hu99 := Try.underlying99
 have hu22 := Try.underlying22
 have hu45 := Try.underlying45
 go_enter Try.func51, Try.ntmps51
 go_wp2_with fail
 go_ret
 obtain ⟨h1, h2, h3, h4⟩ := five (w := w) (.cells #[.int .i64 5, .int .i64 1, .int .i64 4, .int .i64 3] 99 (0, 0)) (.cells #[.int .i64 0, .int .i64 2, .slice (some ⟨w.heap.size, 0, none⟩) 2 2, .int .i64 1, .int .i64 1, .int .i64 0, .int .i64 0, .int .i64 0, .int .i64 1] 24 (0, 0)) (.cells #[.int .i64 3, .int .i64 2, .int .i64 3, .int .i64 3] 99 (0, 0)) (.cells #[.int .i64 0, .int .i64 0, .slice (some ⟨w.heap.size + 1 + 1, 0, none⟩) 2 2, .int .i64 1, .int .i64 1, .int .i64 0, .int .i64 0, .int .i64 0, .int .i64 1] 24 (0, 0)) (.cells (exL w.heap.size (w.heap.size + 1 + 1)) 24 (0, 0))
 refine ⟨_, rfl, Kd.V_mk (xs := exU) (Nat.le_refl _) (fun W' hW => ?_), h4⟩
 have l1 := blk_lt h1
 have l2 := blk_lt h2
 have l3 := blk_lt h3
 exact two_units ((hW _ (Nat.le_refl _) l1).trans h1) ((hW _ (by omega) l2).trans h2) ((hW _ (by omega) l3).trans h3)
end Go.Proofs.Ytelklgdmhnkenaa.U
