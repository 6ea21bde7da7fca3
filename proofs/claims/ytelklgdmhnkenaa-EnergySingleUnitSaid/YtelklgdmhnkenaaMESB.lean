/- Parts of the proof: UxK64, Uxf138, Uxf134, Uxf123, Uxf124, GivenI, GivenJ, PlainN, GivenP, PlainK, PlainL, PlainM, GivenR, UxK104, UxK97, UxK78, UxK77, UxK39, Uxf98. -/
import Derived.Test.YtelklgdmhnkenaaMESA
set_option linter.unusedVariables false
set_option linter.unusedSimpArgs false
open Go.RowKit Go.Proofs.YtelklgdmhnkenaaW.PrintWords Go.Proofs.YtelklgdmhnkenaaW.PrintLast Go.Proofs.YtelklgdmhnkenaaW.PrintMore
namespace Go.Proofs.Ytelklgdmhnkenaa.U
attribute [local go_sem] max2_int min2_int max_two min_two max_three min_three max_four min_four
def fracK_Cmp.f (k : Nat) (a0_0 : Bool) (l0_1 : List Int) (a0_2 : Bool) (l0_3 : List Int) (a1_0 : Bool) (l1_1 : List Int) (a1_2 : Bool) (l1_3 : List Int) : Option (Int) := (fracK_of.f k a0_0 l0_1 a0_2 l0_3).bind fun bt474 => ((fracK_of.f k a1_0 l1_1 a1_2 l1_3).bind fun bt482 => ((whole_Mul.f k bt474.1 bt474.2.1 bt482.2.2.1 bt482.2.2.2).bind fun bt492 => ((whole_Mul.f k bt482.1 bt482.2.1 bt474.2.2.1 bt474.2.2.2).bind fun bt496 => ((whole_Cmp.f k bt492.1 bt492.2 bt496.1 bt496.2).bind fun t500 => (some t500)))))
def fracK_Cmp.T1 : Bool × List (List Nat × List Nat) := (true, [([], []), ([0], [0]), ([], []), ([2, 1], [2]), ([], []), ([], []), ([4, 1, 3, 0, 1, 4, 5], [1, 4]), ([5, 3, 6, 0, 1, 2, 3, 4, 5, 6], [3, 5])])
def fracK_Cmp.B1 : List Nat := [0, 1, 0, 7, 0, 0, 63, 127]
theorem fracK_Cmp.tab1 : rtab .any (opsOf Try.f64 1) = fracK_Cmp.T1 := by kernel_rfl
theorem fracK_Cmp.bits1 : waitsOk fracK_Cmp.T1.2 fracK_Cmp.B1 = true := by kernel_rfl
def fracK_Cmp.T2 : Bool × List (List Nat × List Nat) := (true, [([], []), ([0], [0]), ([], []), ([2], [2]), ([1, 3], [1, 3]), ([], []), ([5], [5]), ([], []), ([7], [7]), ([6, 8, 4], [6, 8]), ([4, 9, 9], [4, 9]), ([10, 10, 0, 1, 2, 3, 4, 5, 6, 7, 8, 9, 10], [10])])
def fracK_Cmp.B2 : List Nat := [0, 1, 0, 4, 15, 0, 32, 0, 128, 511, 1023, 2047]
theorem fracK_Cmp.tab2 : rtab .any (opsOf Try.f64 2) = fracK_Cmp.T2 := by kernel_rfl
theorem fracK_Cmp.bits2 : waitsOk fracK_Cmp.T2.2 fracK_Cmp.B2 = true := by kernel_rfl
set_option maxHeartbeats 8000000 in
set_option maxRecDepth 100000 in
theorem fracK_Cmp.calls (k : Nat) (a0_0 : Bool) (A0_1 : Option Addr) (c0_1 : Nat) (l0_1 : List Int) (a0_2 : Bool) (A0_3 : Option Addr) (c0_3 : Nat) (l0_3 : List Int) (a1_0 : Bool) (A1_1 : Option Addr) (c1_1 : Nat) (l1_1 : List Int) (a1_2 : Bool) (A1_3 : Option Addr) (c1_3 : Nat) (l1_3 : List Int) (r : Int) (w : World) (hr0_1 : Kd.C (Kd.int .u32) w A0_1 l0_1.length l0_1) (hc0_1 : l0_1.length ≤ c0_1) (hr0_3 : Kd.C (Kd.int .u32) w A0_3 l0_3.length l0_3) (hc0_3 : l0_3.length ≤ c0_3) (hr1_1 : Kd.C (Kd.int .u32) w A1_1 l1_1.length l1_1) (hc1_1 : l1_1.length ≤ c1_1) (hr1_3 : Kd.C (Kd.int .u32) w A1_3 l1_3.length l1_3) (hc1_3 : l1_3.length ≤ c1_3) (h : fracK_Cmp.f k a0_0 l0_1 a0_2 l0_3 a1_0 l1_1 a1_2 l1_3 = some r) :
  Calls Try.prog 64 #[.agg #[.bool a0_0, .slice A0_1 l0_1.length c0_1, .bool a0_2, .slice A0_3 l0_3.length c0_3], .agg #[.bool a1_0, .slice A1_1 l1_1.length c1_1, .bool a1_2, .slice A1_3 l1_3.length c1_3]] w fun e w' => e = .returned (.int .i64 r) ∧ Below w.heap.size w w' := by
 have hu66 := Try.underlying66
 have hu120 := Try.underlying120
 have hu64 := Try.underlying64
 have HR0_1 := Aside0.mk hr0_1
 have HC0_1 := Aside0.mk hc0_1
 clear hr0_1 hc0_1
 have HR0_3 := Aside0.mk hr0_3
 have HC0_3 := Aside0.mk hc0_3
 clear hr0_3 hc0_3
 have HR1_1 := Aside0.mk hr1_1
 have HC1_1 := Aside0.mk hc1_1
 clear hr1_1 hc1_1
 have HR1_3 := Aside0.mk hr1_3
 have HC1_3 := Aside0.mk hc1_3
 clear hr1_3 hc1_3
 have HB := Aside0.mk (Below.refl w.heap.size w)
 have H : ((fracK_of.f k a0_0 l0_1 a0_2 l0_3).bind fun bt474 => ((fracK_of.f k a1_0 l1_1 a1_2 l1_3).bind fun bt482 => ((whole_Mul.f k bt474.1 bt474.2.1 bt482.2.2.1 bt482.2.2.2).bind fun bt492 => ((whole_Mul.f k bt482.1 bt482.2.1 bt474.2.2.1 bt474.2.2.2).bind fun bt496 => ((whole_Cmp.f k bt492.1 bt492.2 bt496.1 bt496.2).bind fun t500 => (some t500)))))) = some r := h
 clear h
 replace H := Option.bind_eq_some_iff.mp H
 obtain ⟨⟨t474, t475, t478, t479⟩, A30, H⟩ := H
 replace H : ((fracK_of.f k a1_0 l1_1 a1_2 l1_3).bind fun bt482 => ((whole_Mul.f k t474 t475 bt482.2.2.1 bt482.2.2.2).bind fun bt492 => ((whole_Mul.f k bt482.1 bt482.2.1 t478 t479).bind fun bt496 => ((whole_Cmp.f k bt492.1 bt492.2 bt496.1 bt496.2).bind fun t500 => (some t500))))) = some r := H
 have A3 := Aside0.mk A30
 clear A30
 replace H := Option.bind_eq_some_iff.mp H
 obtain ⟨⟨t482, t483, t486, t487⟩, A40, H⟩ := H
 replace H : ((whole_Mul.f k t474 t475 t486 t487).bind fun bt492 => ((whole_Mul.f k t482 t483 t478 t479).bind fun bt496 => ((whole_Cmp.f k bt492.1 bt492.2 bt496.1 bt496.2).bind fun t500 => (some t500)))) = some r := H
 have A4 := Aside0.mk A40
 clear A40
 replace H := Option.bind_eq_some_iff.mp H
 obtain ⟨⟨t492, t493⟩, A50, H⟩ := H
 replace H : ((whole_Mul.f k t482 t483 t478 t479).bind fun bt496 => ((whole_Cmp.f k t492 t493 bt496.1 bt496.2).bind fun t500 => (some t500))) = some r := H
 have A5 := Aside0.mk A50
 clear A50
 replace H := Option.bind_eq_some_iff.mp H
 obtain ⟨⟨t496, t497⟩, A60, H⟩ := H
 replace H : ((whole_Cmp.f k t492 t493 t496 t497).bind fun t500 => (some t500)) = some r := H
 have A6 := Aside0.mk A60
 clear A60
 replace H := Option.bind_eq_some_iff.mp H
 obtain ⟨t500, A70, H⟩ := H
 replace H : (some t500) = some r := H
 have A7 := Aside0.mk A70
 clear A70
 obtain rfl := Option.some.inj H
 go_enter Try.func64, Try.ntmps64
 try go_wp2_with (first | ((with_reducible refine gate_dst (N := 2) rfl ?_); refine box_event ?hg (N := 2) ?hd (cs := #[.bool a0_0, .slice A0_1 l0_1.length c0_1, .bool a0_2, .slice A0_3 l0_3.length c0_3]) (t := 66) ?hr ?_; (case hd => rfl); (case hg => rfl); (case hr => exact hr_); intro gb472 hg w8 hbox hb; have BK472 := Aside0.mk (hbox); have GW472 := gW_ (w := w) hg m_1; have GE472 := gW_ (w := w) hg m_1; replace HB := Aside0.mk (below_step m_1 hb); clear hb hbox hg) | ((with_reducible refine gate_dst (N := 3) rfl ?_); refine box_event ?hg (N := 3) ?hd (cs := #[.bool a1_0, .slice A1_1 l1_1.length c1_1, .bool a1_2, .slice A1_3 l1_3.length c1_3]) (t := 66) ?hr ?_; (case hd => rfl); (case hg => rfl); (case hr => exact hr_); intro gb473 hg w9 hbox hb; have BK473 := Aside0.mk (hbox); have GW473 := gW_ (w := w) hg m_103; have GE473 := gW_ (w := w) hg m_103; have NB472_473 := nl_ BK472 hg; have NB473_472 := ng_ BK472 hg; replace BK472 := bB_ BK472 hb; replace HB := Aside0.mk (below_step m_103 hb); clear hb hbox hg))
 replace BK472 := bD_ BK472
 replace BK473 := bD_ BK473
 replace HB := Aside0.mk (below_drew1 HB.out)
 refine start_ (n := 8) (S := fun w' => w'.cell? ⟨gb472, 0, none⟩ = some (.bool a0_0) ∧ w'.cell? ⟨gb472, 1, none⟩ = some (.slice A0_1 l0_1.length c0_1) ∧ w'.cell? ⟨gb472, 2, none⟩ = some (.bool a0_2) ∧ w'.cell? ⟨gb472, 3, none⟩ = some (.slice A0_3 l0_3.length c0_3) ∧ w'.cell? ⟨gb473, 0, none⟩ = some (.bool a1_0) ∧ w'.cell? ⟨gb473, 1, none⟩ = some (.slice A1_1 l1_1.length c1_1) ∧ w'.cell? ⟨gb473, 2, none⟩ = some (.bool a1_2) ∧ w'.cell? ⟨gb473, 3, none⟩ = some (.slice A1_3 l1_3.length c1_3)) (ds := []) #[false, false, false, false, false, false, false, false] m_13 rfl rfl ⟨(blk_cell BK472.out 0).trans rfl, (blk_cell BK472.out 1).trans rfl, (blk_cell BK472.out 2).trans rfl, (blk_cell BK472.out 3).trans rfl, (blk_cell BK473.out 0).trans rfl, (blk_cell BK473.out 1).trans rfl, (blk_cell BK473.out 2).trans rfl, (blk_cell BK473.out 3).trans rfl⟩ (fun hHeld => ?_); refine with_tabW fracK_Cmp.tab1 fracK_Cmp.bits1 (fun HT_ HW_ => ?_)
 generalize w9.drew = w10 at BK472 BK473 HB hHeld ⊢
 refine tA_ 0 HT_.out HW_.out hHeld ?_
 refine tA_ 2 HT_.out HW_.out hHeld ?_
 have call1 : ∀ w' : World, Below w.heap.size w w' → Calls Try.prog 82 #[.agg #[.bool a0_0, .slice A0_1 l0_1.length c0_1, .bool a0_2, .slice A0_3 l0_3.length c0_3]] w' fun e w'' => ∃ u1 u2 : Value, e = .returned (.agg #[.bool t474, u1, .bool t478, u2]) ∧ Kd.V (Kd.int .u32) 117 w'' w'.heap.size (fun k => (k < w.heap.size ∨ k < w.heap.size) ∨ w'.heap.size ≤ k) u1 t475 ∧ Kd.V (Kd.int .u32) 117 w'' w'.heap.size (fun k => (k < w.heap.size ∨ k < w.heap.size) ∨ w'.heap.size ≤ k) u2 t479 ∧ Below w'.heap.size w' w'' := fun w' hb => fracK_of.calls k a0_0 (fun k => k < w.heap.size) A0_1 c0_1 l0_1 a0_2 (fun k => k < w.heap.size) A0_3 c0_3 l0_3 t474 t475 t478 t479 w' (Kd.V_mk HC0_1.out (Kd.F_below (Kd.C_F (Kd.heap_int .u32) HR0_1.out) hb)) (Kd.V_mk HC0_3.out (Kd.F_below (Kd.C_F (Kd.heap_int .u32) HR0_3.out) hb)) A3.out
 have call2 : ∀ w' : World, Below w.heap.size w w' → Calls Try.prog 82 #[.agg #[.bool a1_0, .slice A1_1 l1_1.length c1_1, .bool a1_2, .slice A1_3 l1_3.length c1_3]] w' fun e w'' => ∃ u1 u2 : Value, e = .returned (.agg #[.bool t482, u1, .bool t486, u2]) ∧ Kd.V (Kd.int .u32) 117 w'' w'.heap.size (fun k => (k < w.heap.size ∨ k < w.heap.size) ∨ w'.heap.size ≤ k) u1 t483 ∧ Kd.V (Kd.int .u32) 117 w'' w'.heap.size (fun k => (k < w.heap.size ∨ k < w.heap.size) ∨ w'.heap.size ≤ k) u2 t487 ∧ Below w'.heap.size w' w'' := fun w' hb => fracK_of.calls k a1_0 (fun k => k < w.heap.size) A1_1 c1_1 l1_1 a1_2 (fun k => k < w.heap.size) A1_3 c1_3 l1_3 t482 t483 t486 t487 w' (Kd.V_mk HC1_1.out (Kd.F_below (Kd.C_F (Kd.heap_int .u32) HR1_1.out) hb)) (Kd.V_mk HC1_3.out (Kd.F_below (Kd.C_F (Kd.heap_int .u32) HR1_3.out) hb)) A4.out
 have SH : ∀ w' : World, w'.heap[gb472]? = some (.cells #[.bool a0_0, .slice A0_1 l0_1.length c0_1, .bool a0_2, .slice A0_3 l0_3.length c0_3] 66 (0, 0)) → w'.heap[gb473]? = some (.cells #[.bool a1_0, .slice A1_1 l1_1.length c1_1, .bool a1_2, .slice A1_3 l1_3.length c1_3] 66 (0, 0)) → (w'.cell? ⟨gb472, 0, none⟩ = some (.bool a0_0) ∧ w'.cell? ⟨gb472, 1, none⟩ = some (.slice A0_1 l0_1.length c0_1) ∧ w'.cell? ⟨gb472, 2, none⟩ = some (.bool a0_2) ∧ w'.cell? ⟨gb472, 3, none⟩ = some (.slice A0_3 l0_3.length c0_3) ∧ w'.cell? ⟨gb473, 0, none⟩ = some (.bool a1_0) ∧ w'.cell? ⟨gb473, 1, none⟩ = some (.slice A1_1 l1_1.length c1_1) ∧ w'.cell? ⟨gb473, 2, none⟩ = some (.bool a1_2) ∧ w'.cell? ⟨gb473, 3, none⟩ = some (.slice A1_3 l1_3.length c1_3)) := fun w' h1 h2 => ⟨(blk_cell h1 0).trans rfl, (blk_cell h1 1).trans rfl, (blk_cell h1 2).trans rfl, (blk_cell h1 3).trans rfl, (blk_cell h2 0).trans rfl, (blk_cell h2 1).trans rfl, (blk_cell h2 2).trans rfl, (blk_cell h2 3).trans rfl⟩
 refine join_ (σ := Value × Value × Value × Value × Nat × Nat) 2 #[true, true, true, true, true, true, false, false] (fun s_ => [(8, .agg #[.bool t474, s_.1, .bool t478, s_.2.1]), (10, .agg #[.bool t482, s_.2.2.1, .bool t486, s_.2.2.2.1]), (5, .pointer (some ⟨s_.2.2.2.2.1, 0, none⟩)), (6, .pointer (some ⟨s_.2.2.2.2.2, 0, none⟩))]) (fun s_ w' => FQ w gb472 gb473 (.cells #[.bool a0_0, .slice A0_1 l0_1.length c0_1, .bool a0_2, .slice A0_3 l0_3.length c0_3] 66 (0, 0)) (.cells #[.bool a1_0, .slice A1_1 l1_1.length c1_1, .bool a1_2, .slice A1_3 l1_3.length c1_3] 66 (0, 0)) (.cells #[.bool false, .slice none 0 0, .bool false, .slice none 0 0] 120 (0, 0)) t475 t479 t483 t487 true true true true s_ w') ?cJ1111 (fun J1111 => ?_); rotate_left
 refine join_ (σ := Value × Value × Value × Value × Nat × Nat) 3 #[true, true, true, true, true, false, false, false] (fun s_ => [(8, .agg #[.bool t474, s_.1, .bool t478, s_.2.1]), (10, .agg #[.bool t482, s_.2.2.1, .bool t486, s_.2.2.2.1]), (5, .pointer (some ⟨s_.2.2.2.2.1, 0, none⟩))]) (fun s_ w' => FQ w gb472 gb473 (.cells #[.bool a0_0, .slice A0_1 l0_1.length c0_1, .bool a0_2, .slice A0_3 l0_3.length c0_3] 66 (0, 0)) (.cells #[.bool a1_0, .slice A1_1 l1_1.length c1_1, .bool a1_2, .slice A1_3 l1_3.length c1_3] 66 (0, 0)) (.cells #[.bool false, .slice none 0 0, .bool false, .slice none 0 0] 120 (0, 0)) t475 t479 t483 t487 true true true false s_ w') ?cJ1110 (fun J1110 => ?_); rotate_left
 refine join_ (σ := Value × Value × Value × Value × Nat × Nat) 3 #[true, true, true, true, false, true, false, false] (fun s_ => [(8, .agg #[.bool t474, s_.1, .bool t478, s_.2.1]), (10, .agg #[.bool t482, s_.2.2.1, .bool t486, s_.2.2.2.1]), (6, .pointer (some ⟨s_.2.2.2.2.2, 0, none⟩))]) (fun s_ w' => FQ w gb472 gb473 (.cells #[.bool a0_0, .slice A0_1 l0_1.length c0_1, .bool a0_2, .slice A0_3 l0_3.length c0_3] 66 (0, 0)) (.cells #[.bool a1_0, .slice A1_1 l1_1.length c1_1, .bool a1_2, .slice A1_3 l1_3.length c1_3] 66 (0, 0)) (.cells #[.bool false, .slice none 0 0, .bool false, .slice none 0 0] 120 (0, 0)) t475 t479 t483 t487 true true false true s_ w') ?cJ1101 (fun J1101 => ?_); rotate_left
 refine join_ (σ := Value × Value × Value × Value × Nat × Nat) 3 #[true, true, true, false, true, true, false, false] (fun s_ => [(8, .agg #[.bool t474, s_.1, .bool t478, s_.2.1]), (5, .pointer (some ⟨s_.2.2.2.2.1, 0, none⟩)), (6, .pointer (some ⟨s_.2.2.2.2.2, 0, none⟩))]) (fun s_ w' => FQ w gb472 gb473 (.cells #[.bool a0_0, .slice A0_1 l0_1.length c0_1, .bool a0_2, .slice A0_3 l0_3.length c0_3] 66 (0, 0)) (.cells #[.bool a1_0, .slice A1_1 l1_1.length c1_1, .bool a1_2, .slice A1_3 l1_3.length c1_3] 66 (0, 0)) (.cells #[.bool false, .slice none 0 0, .bool false, .slice none 0 0] 120 (0, 0)) t475 t479 t483 t487 true false true true s_ w') ?cJ1011 (fun J1011 => ?_); rotate_left
 refine join_ (σ := Value × Value × Value × Value × Nat × Nat) 4 #[true, true, true, true, false, false, false, false] (fun s_ => [(8, .agg #[.bool t474, s_.1, .bool t478, s_.2.1]), (10, .agg #[.bool t482, s_.2.2.1, .bool t486, s_.2.2.2.1])]) (fun s_ w' => FQ w gb472 gb473 (.cells #[.bool a0_0, .slice A0_1 l0_1.length c0_1, .bool a0_2, .slice A0_3 l0_3.length c0_3] 66 (0, 0)) (.cells #[.bool a1_0, .slice A1_1 l1_1.length c1_1, .bool a1_2, .slice A1_3 l1_3.length c1_3] 66 (0, 0)) (.cells #[.bool false, .slice none 0 0, .bool false, .slice none 0 0] 120 (0, 0)) t475 t479 t483 t487 true true false false s_ w') ?cJ1100 (fun J1100 => ?_); rotate_left
 refine join_ (σ := Value × Value × Value × Value × Nat × Nat) 4 #[true, true, true, false, true, false, false, false] (fun s_ => [(8, .agg #[.bool t474, s_.1, .bool t478, s_.2.1]), (5, .pointer (some ⟨s_.2.2.2.2.1, 0, none⟩))]) (fun s_ w' => FQ w gb472 gb473 (.cells #[.bool a0_0, .slice A0_1 l0_1.length c0_1, .bool a0_2, .slice A0_3 l0_3.length c0_3] 66 (0, 0)) (.cells #[.bool a1_0, .slice A1_1 l1_1.length c1_1, .bool a1_2, .slice A1_3 l1_3.length c1_3] 66 (0, 0)) (.cells #[.bool false, .slice none 0 0, .bool false, .slice none 0 0] 120 (0, 0)) t475 t479 t483 t487 true false true false s_ w') ?cJ1010 (fun J1010 => ?_); rotate_left
 refine join_ (σ := Value × Value × Value × Value × Nat × Nat) 4 #[true, true, true, false, false, true, false, false] (fun s_ => [(8, .agg #[.bool t474, s_.1, .bool t478, s_.2.1]), (6, .pointer (some ⟨s_.2.2.2.2.2, 0, none⟩))]) (fun s_ w' => FQ w gb472 gb473 (.cells #[.bool a0_0, .slice A0_1 l0_1.length c0_1, .bool a0_2, .slice A0_3 l0_3.length c0_3] 66 (0, 0)) (.cells #[.bool a1_0, .slice A1_1 l1_1.length c1_1, .bool a1_2, .slice A1_3 l1_3.length c1_3] 66 (0, 0)) (.cells #[.bool false, .slice none 0 0, .bool false, .slice none 0 0] 120 (0, 0)) t475 t479 t483 t487 true false false true s_ w') ?cJ1001 (fun J1001 => ?_); rotate_left
 refine join_ (σ := Value × Value × Value × Value × Nat × Nat) 4 #[true, false, true, false, true, true, false, false] (fun s_ => [(5, .pointer (some ⟨s_.2.2.2.2.1, 0, none⟩)), (6, .pointer (some ⟨s_.2.2.2.2.2, 0, none⟩))]) (fun s_ w' => FQ w gb472 gb473 (.cells #[.bool a0_0, .slice A0_1 l0_1.length c0_1, .bool a0_2, .slice A0_3 l0_3.length c0_3] 66 (0, 0)) (.cells #[.bool a1_0, .slice A1_1 l1_1.length c1_1, .bool a1_2, .slice A1_3 l1_3.length c1_3] 66 (0, 0)) (.cells #[.bool false, .slice none 0 0, .bool false, .slice none 0 0] 120 (0, 0)) t475 t479 t483 t487 false false true true s_ w') ?cJ0011 (fun J0011 => ?_); rotate_left
 refine join_ (σ := Value × Value × Value × Value × Nat × Nat) 5 #[true, true, true, false, false, false, false, false] (fun s_ => [(8, .agg #[.bool t474, s_.1, .bool t478, s_.2.1])]) (fun s_ w' => FQ w gb472 gb473 (.cells #[.bool a0_0, .slice A0_1 l0_1.length c0_1, .bool a0_2, .slice A0_3 l0_3.length c0_3] 66 (0, 0)) (.cells #[.bool a1_0, .slice A1_1 l1_1.length c1_1, .bool a1_2, .slice A1_3 l1_3.length c1_3] 66 (0, 0)) (.cells #[.bool false, .slice none 0 0, .bool false, .slice none 0 0] 120 (0, 0)) t475 t479 t483 t487 true false false false s_ w') ?cJ1000 (fun J1000 => ?_); rotate_left
 refine join_ (σ := Value × Value × Value × Value × Nat × Nat) 5 #[true, false, true, false, true, false, false, false] (fun s_ => [(5, .pointer (some ⟨s_.2.2.2.2.1, 0, none⟩))]) (fun s_ w' => FQ w gb472 gb473 (.cells #[.bool a0_0, .slice A0_1 l0_1.length c0_1, .bool a0_2, .slice A0_3 l0_3.length c0_3] 66 (0, 0)) (.cells #[.bool a1_0, .slice A1_1 l1_1.length c1_1, .bool a1_2, .slice A1_3 l1_3.length c1_3] 66 (0, 0)) (.cells #[.bool false, .slice none 0 0, .bool false, .slice none 0 0] 120 (0, 0)) t475 t479 t483 t487 false false true false s_ w') ?cJ0010 (fun J0010 => ?_); rotate_left
 refine join_ (σ := Value × Value × Value × Value × Nat × Nat) 5 #[true, false, true, false, false, true, false, false] (fun s_ => [(6, .pointer (some ⟨s_.2.2.2.2.2, 0, none⟩))]) (fun s_ w' => FQ w gb472 gb473 (.cells #[.bool a0_0, .slice A0_1 l0_1.length c0_1, .bool a0_2, .slice A0_3 l0_3.length c0_3] 66 (0, 0)) (.cells #[.bool a1_0, .slice A1_1 l1_1.length c1_1, .bool a1_2, .slice A1_3 l1_3.length c1_3] 66 (0, 0)) (.cells #[.bool false, .slice none 0 0, .bool false, .slice none 0 0] 120 (0, 0)) t475 t479 t483 t487 false false false true s_ w') ?cJ0001 (fun J0001 => ?_); rotate_left
 have h0 : FQ w gb472 gb473 (.cells #[.bool a0_0, .slice A0_1 l0_1.length c0_1, .bool a0_2, .slice A0_3 l0_3.length c0_3] 66 (0, 0)) (.cells #[.bool a1_0, .slice A1_1 l1_1.length c1_1, .bool a1_2, .slice A1_3 l1_3.length c1_3] 66 (0, 0)) (.cells #[.bool false, .slice none 0 0, .bool false, .slice none 0 0] 120 (0, 0)) t475 t479 t483 t487 false false false false (.bool false, .bool false, .bool false, .bool false, 0, 0) _ := ⟨BK472.out, BK473.out, GW472.out, GW473.out, HB.out, fun e => absurd e Bool.false_ne_true, fun e => absurd e Bool.false_ne_true, fun e => absurd e Bool.false_ne_true, fun e => absurd e Bool.false_ne_true, fun e => absurd e Bool.false_ne_true⟩
 refine three_ (i := 1) (j := 4) (k := 5) (Ni := some 8) (Nj := some 5) (Nk := some 6) #[true, true, true, false, false, false, false, false] #[true, false, true, false, true, false, false, false] #[true, false, true, false, false, true, false, false] rfl rfl rfl rfl rfl rfl (three_of HT_.out m_13) (by decide) (by decide) (by decide) (fun K hK => ?_) (fun K hK => ?_) (fun K hK => ?_)
 ·refine goes_ Try.func82 m_13 rfl #[.agg #[.bool a0_0, .slice A0_1 l0_1.length c0_1, .bool a0_2, .slice A0_3 l0_3.length c0_3]] (by rfl) rfl rfl m_23 ((call1 _ h0.bel).mono fun e w2 ⟨u1, u2, he, p1, p2, hb⟩ => ⟨_, he, ?_⟩)
  have x := h0.call1 p1 p2 hb
  exact hK.out _ _ (SH _ x.a x.b) (fun _ => norm_ m_12 (J1000 (u1, u2, (.bool false), (.bool false), 0, 0) _ x))
 ·refine box_step ?hg (N := 5) ?hd (cs := #[.bool false, .slice none 0 0, .bool false, .slice none 0 0]) (t := 120) ?hr ?_; (case hd => rfl); (case hg => rfl); (case hr => exact hr_)
  intro g hg w2 hz hb
  have x := h0.box5 hg hz hb
  exact hK.out _ _ (SH _ x.a x.b) (fun _ => norm_ m_12 (J0010 ((.bool false), (.bool false), (.bool false), (.bool false), g, 0) _ x))
 ·refine box_step ?hg (N := 6) ?hd (cs := #[.bool false, .slice none 0 0, .bool false, .slice none 0 0]) (t := 120) ?hr ?_; (case hd => rfl); (case hg => rfl); (case hr => exact hr_)
  intro g hg w2 hz hb
  have x := h0.box6 hg hz hb
  exact hK.out _ _ (SH _ x.a x.b) (fun _ => norm_ m_12 (J0001 ((.bool false), (.bool false), (.bool false), (.bool false), 0, g) _ x))
 case cJ0001 =>
  rintro ⟨v1, v2, v3, v4, g5, g6⟩ w1 h0
  refine norm_ (a' := ?_) ?_ ?_
  rotate_left
  ·simp only [putAll, Act.put, List.setIfInBounds_toArray, List.set_cons_zero, List.set_cons_succ]
   rfl
  refine two_ (i := 1) (j := 4) (Ni := some 8) (Nj := some 5) #[true, true, true, false, false, true, false, false] #[true, false, true, false, true, true, false, false] rfl rfl rfl rfl (two_of HT_.out m_13) (by decide) (by decide) (fun K hK => ?_) (fun K hK => ?_)
  ·refine goes_ Try.func82 m_13 rfl #[.agg #[.bool a0_0, .slice A0_1 l0_1.length c0_1, .bool a0_2, .slice A0_3 l0_3.length c0_3]] (by rfl) rfl rfl m_23 ((call1 _ h0.bel).mono fun e w2 ⟨u1, u2, he, p1, p2, hb⟩ => ⟨_, he, ?_⟩)
   have x := h0.call1 p1 p2 hb
   exact hK.out _ _ (SH _ x.a x.b) (fun _ => norm_ m_12 (J1001 (u1, u2, v3, v4, g5, g6) _ x))
  ·refine box_step ?hg (N := 5) ?hd (cs := #[.bool false, .slice none 0 0, .bool false, .slice none 0 0]) (t := 120) ?hr ?_; (case hd => rfl); (case hg => rfl); (case hr => exact hr_)
   intro g hg w2 hz hb
   have x := h0.box5 hg hz hb
   exact hK.out _ _ (SH _ x.a x.b) (fun _ => norm_ m_12 (J0011 (v1, v2, v3, v4, g, g6) _ x))
 case cJ0010 =>
  rintro ⟨v1, v2, v3, v4, g5, g6⟩ w1 h0
  refine norm_ (a' := ?_) ?_ ?_
  rotate_left
  ·simp only [putAll, Act.put, List.setIfInBounds_toArray, List.set_cons_zero, List.set_cons_succ]
   rfl
  refine two_ (i := 1) (j := 5) (Ni := some 8) (Nj := some 6) #[true, true, true, false, true, false, false, false] #[true, false, true, false, true, true, false, false] rfl rfl rfl rfl (two_of HT_.out m_13) (by decide) (by decide) (fun K hK => ?_) (fun K hK => ?_)
  ·refine goes_ Try.func82 m_13 rfl #[.agg #[.bool a0_0, .slice A0_1 l0_1.length c0_1, .bool a0_2, .slice A0_3 l0_3.length c0_3]] (by rfl) rfl rfl m_23 ((call1 _ h0.bel).mono fun e w2 ⟨u1, u2, he, p1, p2, hb⟩ => ⟨_, he, ?_⟩)
   have x := h0.call1 p1 p2 hb
   exact hK.out _ _ (SH _ x.a x.b) (fun _ => norm_ m_12 (J1010 (u1, u2, v3, v4, g5, g6) _ x))
  ·refine box_step ?hg (N := 6) ?hd (cs := #[.bool false, .slice none 0 0, .bool false, .slice none 0 0]) (t := 120) ?hr ?_; (case hd => rfl); (case hg => rfl); (case hr => exact hr_)
   intro g hg w2 hz hb
   have x := h0.box6 hg hz hb
   exact hK.out _ _ (SH _ x.a x.b) (fun _ => norm_ m_12 (J0011 (v1, v2, v3, v4, g5, g) _ x))
 case cJ1000 =>
  rintro ⟨v1, v2, v3, v4, g5, g6⟩ w1 h0
  refine norm_ (a' := ?_) ?_ ?_
  rotate_left
  ·simp only [putAll, Act.put, List.setIfInBounds_toArray, List.set_cons_zero, List.set_cons_succ]
   rfl
  refine three_ (i := 3) (j := 4) (k := 5) (Ni := some 10) (Nj := some 5) (Nk := some 6) #[true, true, true, true, false, false, false, false] #[true, true, true, false, true, false, false, false] #[true, true, true, false, false, true, false, false] rfl rfl rfl rfl rfl rfl (three_of HT_.out m_13) (by decide) (by decide) (by decide) (fun K hK => ?_) (fun K hK => ?_) (fun K hK => ?_)
  ·refine goes_ Try.func82 m_13 rfl #[.agg #[.bool a1_0, .slice A1_1 l1_1.length c1_1, .bool a1_2, .slice A1_3 l1_3.length c1_3]] (by rfl) rfl rfl m_23 ((call2 _ h0.bel).mono fun e w2 ⟨u1, u2, he, p1, p2, hb⟩ => ⟨_, he, ?_⟩)
   have x := h0.call2 p1 p2 hb
   exact hK.out _ _ (SH _ x.a x.b) (fun _ => norm_ m_12 (J1100 (v1, v2, u1, u2, g5, g6) _ x))
  ·refine box_step ?hg (N := 5) ?hd (cs := #[.bool false, .slice none 0 0, .bool false, .slice none 0 0]) (t := 120) ?hr ?_; (case hd => rfl); (case hg => rfl); (case hr => exact hr_)
   intro g hg w2 hz hb
   have x := h0.box5 hg hz hb
   exact hK.out _ _ (SH _ x.a x.b) (fun _ => norm_ m_12 (J1010 (v1, v2, v3, v4, g, g6) _ x))
  ·refine box_step ?hg (N := 6) ?hd (cs := #[.bool false, .slice none 0 0, .bool false, .slice none 0 0]) (t := 120) ?hr ?_; (case hd => rfl); (case hg => rfl); (case hr => exact hr_)
   intro g hg w2 hz hb
   have x := h0.box6 hg hz hb
   exact hK.out _ _ (SH _ x.a x.b) (fun _ => norm_ m_12 (J1001 (v1, v2, v3, v4, g5, g) _ x))
 case cJ0011 =>
  rintro ⟨v1, v2, v3, v4, g5, g6⟩ w1 h0
  refine norm_ (a' := ?_) ?_ ?_
  rotate_left
  ·simp only [putAll, Act.put, List.setIfInBounds_toArray, List.set_cons_zero, List.set_cons_succ]
   rfl
  refine one_ (i := 1) (N := some 8) #[true, true, true, false, true, true, false, false] rfl rfl (one_of HT_.out m_13) (by decide) (fun K hK => ?_)
  refine goes_ Try.func82 m_13 rfl #[.agg #[.bool a0_0, .slice A0_1 l0_1.length c0_1, .bool a0_2, .slice A0_3 l0_3.length c0_3]] (by rfl) rfl rfl m_23 ((call1 _ h0.bel).mono fun e w2 ⟨u1, u2, he, p1, p2, hb⟩ => ⟨_, he, ?_⟩)
  have x := h0.call1 p1 p2 hb
  exact hK.out _ _ (SH _ x.a x.b) (fun _ => norm_ m_12 (J1011 (u1, u2, v3, v4, g5, g6) _ x))
 case cJ1001 =>
  rintro ⟨v1, v2, v3, v4, g5, g6⟩ w1 h0
  refine norm_ (a' := ?_) ?_ ?_
  rotate_left
  ·simp only [putAll, Act.put, List.setIfInBounds_toArray, List.set_cons_zero, List.set_cons_succ]
   rfl
  refine two_ (i := 3) (j := 4) (Ni := some 10) (Nj := some 5) #[true, true, true, true, false, true, false, false] #[true, true, true, false, true, true, false, false] rfl rfl rfl rfl (two_of HT_.out m_13) (by decide) (by decide) (fun K hK => ?_) (fun K hK => ?_)
  ·refine goes_ Try.func82 m_13 rfl #[.agg #[.bool a1_0, .slice A1_1 l1_1.length c1_1, .bool a1_2, .slice A1_3 l1_3.length c1_3]] (by rfl) rfl rfl m_23 ((call2 _ h0.bel).mono fun e w2 ⟨u1, u2, he, p1, p2, hb⟩ => ⟨_, he, ?_⟩)
   have x := h0.call2 p1 p2 hb
   exact hK.out _ _ (SH _ x.a x.b) (fun _ => norm_ m_12 (J1101 (v1, v2, u1, u2, g5, g6) _ x))
  ·refine box_step ?hg (N := 5) ?hd (cs := #[.bool false, .slice none 0 0, .bool false, .slice none 0 0]) (t := 120) ?hr ?_; (case hd => rfl); (case hg => rfl); (case hr => exact hr_)
   intro g hg w2 hz hb
   have x := h0.box5 hg hz hb
   exact hK.out _ _ (SH _ x.a x.b) (fun _ => norm_ m_12 (J1011 (v1, v2, v3, v4, g, g6) _ x))
 case cJ1010 =>
  rintro ⟨v1, v2, v3, v4, g5, g6⟩ w1 h0
  refine norm_ (a' := ?_) ?_ ?_
  rotate_left
  ·simp only [putAll, Act.put, List.setIfInBounds_toArray, List.set_cons_zero, List.set_cons_succ]
   rfl
  refine two_ (i := 3) (j := 5) (Ni := some 10) (Nj := some 6) #[true, true, true, true, true, false, false, false] #[true, true, true, false, true, true, false, false] rfl rfl rfl rfl (two_of HT_.out m_13) (by decide) (by decide) (fun K hK => ?_) (fun K hK => ?_)
  ·refine goes_ Try.func82 m_13 rfl #[.agg #[.bool a1_0, .slice A1_1 l1_1.length c1_1, .bool a1_2, .slice A1_3 l1_3.length c1_3]] (by rfl) rfl rfl m_23 ((call2 _ h0.bel).mono fun e w2 ⟨u1, u2, he, p1, p2, hb⟩ => ⟨_, he, ?_⟩)
   have x := h0.call2 p1 p2 hb
   exact hK.out _ _ (SH _ x.a x.b) (fun _ => norm_ m_12 (J1110 (v1, v2, u1, u2, g5, g6) _ x))
  ·refine box_step ?hg (N := 6) ?hd (cs := #[.bool false, .slice none 0 0, .bool false, .slice none 0 0]) (t := 120) ?hr ?_; (case hd => rfl); (case hg => rfl); (case hr => exact hr_)
   intro g hg w2 hz hb
   have x := h0.box6 hg hz hb
   exact hK.out _ _ (SH _ x.a x.b) (fun _ => norm_ m_12 (J1011 (v1, v2, v3, v4, g5, g) _ x))
 case cJ1100 =>
  rintro ⟨v1, v2, v3, v4, g5, g6⟩ w1 h0
  refine norm_ (a' := ?_) ?_ ?_
  rotate_left
  ·simp only [putAll, Act.put, List.setIfInBounds_toArray, List.set_cons_zero, List.set_cons_succ]
   rfl
  refine two_ (i := 4) (j := 5) (Ni := some 5) (Nj := some 6) #[true, true, true, true, true, false, false, false] #[true, true, true, true, false, true, false, false] rfl rfl rfl rfl (two_of HT_.out m_13) (by decide) (by decide) (fun K hK => ?_) (fun K hK => ?_)
  ·refine box_step ?hg (N := 5) ?hd (cs := #[.bool false, .slice none 0 0, .bool false, .slice none 0 0]) (t := 120) ?hr ?_; (case hd => rfl); (case hg => rfl); (case hr => exact hr_)
   intro g hg w2 hz hb
   have x := h0.box5 hg hz hb
   exact hK.out _ _ (SH _ x.a x.b) (fun _ => norm_ m_12 (J1110 (v1, v2, v3, v4, g, g6) _ x))
  ·refine box_step ?hg (N := 6) ?hd (cs := #[.bool false, .slice none 0 0, .bool false, .slice none 0 0]) (t := 120) ?hr ?_; (case hd => rfl); (case hg => rfl); (case hr => exact hr_)
   intro g hg w2 hz hb
   have x := h0.box6 hg hz hb
   exact hK.out _ _ (SH _ x.a x.b) (fun _ => norm_ m_12 (J1101 (v1, v2, v3, v4, g5, g) _ x))
 case cJ1011 =>
  rintro ⟨v1, v2, v3, v4, g5, g6⟩ w1 h0
  refine norm_ (a' := ?_) ?_ ?_
  rotate_left
  ·simp only [putAll, Act.put, List.setIfInBounds_toArray, List.set_cons_zero, List.set_cons_succ]
   rfl
  refine one_ (i := 3) (N := some 10) #[true, true, true, true, true, true, false, false] rfl rfl (one_of HT_.out m_13) (by decide) (fun K hK => ?_)
  refine goes_ Try.func82 m_13 rfl #[.agg #[.bool a1_0, .slice A1_1 l1_1.length c1_1, .bool a1_2, .slice A1_3 l1_3.length c1_3]] (by rfl) rfl rfl m_23 ((call2 _ h0.bel).mono fun e w2 ⟨u1, u2, he, p1, p2, hb⟩ => ⟨_, he, ?_⟩)
  have x := h0.call2 p1 p2 hb
  exact hK.out _ _ (SH _ x.a x.b) (fun _ => norm_ m_12 (J1111 (v1, v2, u1, u2, g5, g6) _ x))
 case cJ1101 =>
  rintro ⟨v1, v2, v3, v4, g5, g6⟩ w1 h0
  refine norm_ (a' := ?_) ?_ ?_
  rotate_left
  ·simp only [putAll, Act.put, List.setIfInBounds_toArray, List.set_cons_zero, List.set_cons_succ]
   rfl
  refine one_ (i := 4) (N := some 5) #[true, true, true, true, true, true, false, false] rfl rfl (one_of HT_.out m_13) (by decide) (fun K hK => ?_)
  refine box_step ?hg (N := 5) ?hd (cs := #[.bool false, .slice none 0 0, .bool false, .slice none 0 0]) (t := 120) ?hr ?_; (case hd => rfl); (case hg => rfl); (case hr => exact hr_)
  intro g hg w2 hz hb
  have x := h0.box5 hg hz hb
  exact hK.out _ _ (SH _ x.a x.b) (fun _ => norm_ m_12 (J1111 (v1, v2, v3, v4, g, g6) _ x))
 case cJ1110 =>
  rintro ⟨v1, v2, v3, v4, g5, g6⟩ w1 h0
  refine norm_ (a' := ?_) ?_ ?_
  rotate_left
  ·simp only [putAll, Act.put, List.setIfInBounds_toArray, List.set_cons_zero, List.set_cons_succ]
   rfl
  refine one_ (i := 5) (N := some 6) #[true, true, true, true, true, true, false, false] rfl rfl (one_of HT_.out m_13) (by decide) (fun K hK => ?_)
  refine box_step ?hg (N := 6) ?hd (cs := #[.bool false, .slice none 0 0, .bool false, .slice none 0 0]) (t := 120) ?hr ?_; (case hd => rfl); (case hg => rfl); (case hr => exact hr_)
  intro g hg w2 hz hb
  have x := h0.box6 hg hz hb
  exact hK.out _ _ (SH _ x.a x.b) (fun _ => norm_ m_12 (J1111 (v1, v2, v3, v4, g5, g) _ x))
 case cJ1111 =>
  rintro ⟨v476, v480, v484, v488, gb490, gb491⟩ w15 h0
  have hS_ := SH _ h0.a h0.b
  obtain ⟨y1, y2⟩ := h0.r1 rfl
  obtain ⟨y3, y4⟩ := h0.r2 rfl
  obtain ⟨h6_, h8_, h10_, h12_⟩ := h0.z5 rfl
  obtain ⟨h7_, h16_, h18_, h20_⟩ := h0.z6 rfl
  have h0_ := FQ.row y1
  have h1_ := FQ.row y2
  have h2_ := FQ.row y3
  have h3_ := FQ.row y4
  have h4_ := h0.a
  have h5_ := h0.b
  have h9_ := h8_
  have h11_ := h10_.symm
  have h13_ := h12_.symm
  have h15_ := h0.ne rfl rfl
  have h14_ := h15_.symm
  have h17_ := h16_
  have h19_ := h18_.symm
  have h21_ := h20_.symm
  have h22_ := h0.bel
  clear y1 y2 y3 y4 h0
  have HO477 : Aside0 (Kd.V (Kd.int .u32) 117 w15 w.heap.size (fun k_ => k_ ≠ gb472 ∧ k_ ≠ gb473 ∧ k_ ≠ gb490 ∧ k_ ≠ gb491) v476 t475) := ⟨h0_⟩
  have HO481 : Aside0 (Kd.V (Kd.int .u32) 117 w15 w.heap.size (fun k_ => k_ ≠ gb472 ∧ k_ ≠ gb473 ∧ k_ ≠ gb490 ∧ k_ ≠ gb491) v480 t479) := ⟨h1_⟩
  have HO485 : Aside0 (Kd.V (Kd.int .u32) 117 w15 w.heap.size (fun k_ => k_ ≠ gb472 ∧ k_ ≠ gb473 ∧ k_ ≠ gb490 ∧ k_ ≠ gb491) v484 t483) := ⟨h2_⟩
  have HO489 : Aside0 (Kd.V (Kd.int .u32) 117 w15 w.heap.size (fun k_ => k_ ≠ gb472 ∧ k_ ≠ gb473 ∧ k_ ≠ gb490 ∧ k_ ≠ gb491) v488 t487) := ⟨h3_⟩
  have BK490 : Aside0 (w15.heap[gb490]? = some (.cells #[.bool false, .slice none 0 0, .bool false, .slice none 0 0] 120 (0, 0))) := ⟨h6_⟩
  have BK491 : Aside0 (w15.heap[gb491]? = some (.cells #[.bool false, .slice none 0 0, .bool false, .slice none 0 0] 120 (0, 0))) := ⟨h7_⟩
  have GW490 : Aside0 (w.heap.size ≤ gb490) := ⟨h8_⟩
  have GE490 : Aside0 (w.heap.size ≤ gb490) := ⟨h9_⟩
  have NB472_490 : Aside0 (gb472 ≠ gb490) := ⟨h10_⟩
  have NB490_472 : Aside0 (gb490 ≠ gb472) := ⟨h11_⟩
  have NB473_490 : Aside0 (gb473 ≠ gb490) := ⟨h12_⟩
  have NB490_473 : Aside0 (gb490 ≠ gb473) := ⟨h13_⟩
  have NB491_490 : Aside0 (gb491 ≠ gb490) := ⟨h14_⟩
  have NB490_491 : Aside0 (gb490 ≠ gb491) := ⟨h15_⟩
  have GW491 : Aside0 (w.heap.size ≤ gb491) := ⟨h16_⟩
  have GE491 : Aside0 (w.heap.size ≤ gb491) := ⟨h17_⟩
  have NB472_491 : Aside0 (gb472 ≠ gb491) := ⟨h18_⟩
  have NB491_472 : Aside0 (gb491 ≠ gb472) := ⟨h19_⟩
  have NB473_491 : Aside0 (gb473 ≠ gb491) := ⟨h20_⟩
  have NB491_473 : Aside0 (gb491 ≠ gb473) := ⟨h21_⟩
  replace BK472 : Aside0 (w15.heap[gb472]? = some (.cells #[.bool a0_0, .slice A0_1 l0_1.length c0_1, .bool a0_2, .slice A0_3 l0_3.length c0_3] 66 (0, 0))) := ⟨h4_⟩
  replace BK473 : Aside0 (w15.heap[gb473]? = some (.cells #[.bool a1_0, .slice A1_1 l1_1.length c1_1, .bool a1_2, .slice A1_3 l1_3.length c1_3] 66 (0, 0))) := ⟨h5_⟩
  replace HB : Aside0 (Below w.heap.size w w15) := ⟨h22_⟩
  clear h0_ h10_ h11_ h12_ h13_ h14_ h15_ h16_ h17_ h18_ h19_ h1_ h20_ h21_ h22_ h2_ h3_ h4_ h5_ h6_ h7_ h8_ h9_
  have hHeld : w15.cell? ⟨gb472, 0, none⟩ = some (.bool a0_0) ∧ w15.cell? ⟨gb472, 1, none⟩ = some (.slice A0_1 l0_1.length c0_1) ∧ w15.cell? ⟨gb472, 2, none⟩ = some (.bool a0_2) ∧ w15.cell? ⟨gb472, 3, none⟩ = some (.slice A0_3 l0_3.length c0_3) ∧ w15.cell? ⟨gb473, 0, none⟩ = some (.bool a1_0) ∧ w15.cell? ⟨gb473, 1, none⟩ = some (.slice A1_1 l1_1.length c1_1) ∧ w15.cell? ⟨gb473, 2, none⟩ = some (.bool a1_2) ∧ w15.cell? ⟨gb473, 3, none⟩ = some (.slice A1_3 l1_3.length c1_3) := hS_
  obtain ⟨Ao17, co17, eo17⟩ := Kd.V_slice HO477.out
  (first | subst eo17 | (injection eo17 with f1_ f2_ f3_; have f4_ := f1_.symm; have f5_ := f3_.symm; clear f1_ f2_ f3_; subst f4_; subst f5_))
  obtain ⟨Ao20, co20, eo20⟩ := Kd.V_slice HO481.out
  (first | subst eo20 | (injection eo20 with f1_ f2_ f3_; have f4_ := f1_.symm; have f5_ := f3_.symm; clear f1_ f2_ f3_; subst f4_; subst f5_))
  obtain ⟨Ao23, co23, eo23⟩ := Kd.V_slice HO485.out
  (first | subst eo23 | (injection eo23 with f1_ f2_ f3_; have f4_ := f1_.symm; have f5_ := f3_.symm; clear f1_ f2_ f3_; subst f4_; subst f5_))
  obtain ⟨Ao26, co26, eo26⟩ := Kd.V_slice HO489.out
  (first | subst eo26 | (injection eo26 with f1_ f2_ f3_; have f4_ := f1_.symm; have f5_ := f3_.symm; clear f1_ f2_ f3_; subst f4_; subst f5_))
  refine norm_ (a' := ?_) ?_ ?_
  rotate_left
  ·simp only [putAll, Act.put, List.setIfInBounds_toArray, List.set_cons_zero, List.set_cons_succ]
   rfl
  refine one_ (i := 6) (N := none) #[true, true, true, true, true, true, true, false] rfl rfl (one_of HT_.out m_13) (by decide) (fun K hK => ?_)
  have hs16 : w15.cell? ⟨gb490, 0, none⟩ = some (.bool false) := (blk_cell BK490.out 0).trans rfl
  have hfs16 := blk_frozen BK490.out 0
  have hns16_0 := NB472_490.out
  have hns16_1 := NB473_490.out
  have hns16_3 := NB491_490.out
  have hms16_0 := NB490_472.out
  have hms16_1 := NB490_473.out
  have hms16_3 := NB490_491.out
  have hs18 : w15.cell? ⟨gb490, 1, none⟩ = some (.slice none 0 0) := (blk_cell BK490.out 1).trans rfl
  have hfs18 := blk_frozen BK490.out 1
  have hns18_0 := NB472_490.out
  have hns18_1 := NB473_490.out
  have hns18_3 := NB491_490.out
  have hms18_0 := NB490_472.out
  have hms18_1 := NB490_473.out
  have hms18_3 := NB490_491.out
  have hs19 : w15.cell? ⟨gb490, 2, none⟩ = some (.bool false) := (blk_cell BK490.out 2).trans rfl
  have hfs19 := blk_frozen BK490.out 2
  have hns19_0 := NB472_490.out
  have hns19_1 := NB473_490.out
  have hns19_3 := NB491_490.out
  have hms19_0 := NB490_472.out
  have hms19_1 := NB490_473.out
  have hms19_3 := NB490_491.out
  have hs21 : w15.cell? ⟨gb490, 3, none⟩ = some (.slice none 0 0) := (blk_cell BK490.out 3).trans rfl
  have hfs21 := blk_frozen BK490.out 3
  have hns21_0 := NB472_490.out
  have hns21_1 := NB473_490.out
  have hns21_3 := NB491_490.out
  have hms21_0 := NB490_472.out
  have hms21_1 := NB490_473.out
  have hms21_3 := NB490_491.out
  refine skip_ (w1 := ?_) (by rfl) rfl ?_ ?_
  rotate_left
  ·go_simp
   rfl
  refine hK.out _ _ ⟨((cell_far (p := ⟨gb490, _, none⟩) NB472_490.out _).trans (((cell_far (p := ⟨gb490, _, none⟩) NB472_490.out _).trans (((cell_far (p := ⟨gb490, _, none⟩) NB472_490.out _).trans (((cell_far (p := ⟨gb490, _, none⟩) NB472_490.out _).trans (hHeld.1)))))))), ((cell_far (p := ⟨gb490, _, none⟩) NB472_490.out _).trans (((cell_far (p := ⟨gb490, _, none⟩) NB472_490.out _).trans (((cell_far (p := ⟨gb490, _, none⟩) NB472_490.out _).trans (((cell_far (p := ⟨gb490, _, none⟩) NB472_490.out _).trans (hHeld.2.1)))))))), ((cell_far (p := ⟨gb490, _, none⟩) NB472_490.out _).trans (((cell_far (p := ⟨gb490, _, none⟩) NB472_490.out _).trans (((cell_far (p := ⟨gb490, _, none⟩) NB472_490.out _).trans (((cell_far (p := ⟨gb490, _, none⟩) NB472_490.out _).trans (hHeld.2.2.1)))))))), ((cell_far (p := ⟨gb490, _, none⟩) NB472_490.out _).trans (((cell_far (p := ⟨gb490, _, none⟩) NB472_490.out _).trans (((cell_far (p := ⟨gb490, _, none⟩) NB472_490.out _).trans (((cell_far (p := ⟨gb490, _, none⟩) NB472_490.out _).trans (hHeld.2.2.2.1)))))))), ((cell_far (p := ⟨gb490, _, none⟩) NB473_490.out _).trans (((cell_far (p := ⟨gb490, _, none⟩) NB473_490.out _).trans (((cell_far (p := ⟨gb490, _, none⟩) NB473_490.out _).trans (((cell_far (p := ⟨gb490, _, none⟩) NB473_490.out _).trans (hHeld.2.2.2.2.1)))))))), ((cell_far (p := ⟨gb490, _, none⟩) NB473_490.out _).trans (((cell_far (p := ⟨gb490, _, none⟩) NB473_490.out _).trans (((cell_far (p := ⟨gb490, _, none⟩) NB473_490.out _).trans (((cell_far (p := ⟨gb490, _, none⟩) NB473_490.out _).trans (hHeld.2.2.2.2.2.1)))))))), ((cell_far (p := ⟨gb490, _, none⟩) NB473_490.out _).trans (((cell_far (p := ⟨gb490, _, none⟩) NB473_490.out _).trans (((cell_far (p := ⟨gb490, _, none⟩) NB473_490.out _).trans (((cell_far (p := ⟨gb490, _, none⟩) NB473_490.out _).trans (hHeld.2.2.2.2.2.2.1)))))))), ((cell_far (p := ⟨gb490, _, none⟩) NB473_490.out _).trans (((cell_far (p := ⟨gb490, _, none⟩) NB473_490.out _).trans (((cell_far (p := ⟨gb490, _, none⟩) NB473_490.out _).trans (((cell_far (p := ⟨gb490, _, none⟩) NB473_490.out _).trans (hHeld.2.2.2.2.2.2.2))))))))⟩ (fun hHeld => ?_)
  clear hK K
  refine one_ (i := 7) (N := none) #[true, true, true, true, true, true, true, true] rfl rfl (one_of HT_.out m_13) (by decide) (fun K hK => ?_)
  have hs22 : w15.cell? ⟨gb491, 0, none⟩ = some (.bool false) := (blk_cell BK491.out 0).trans rfl
  have hfs22 := blk_frozen BK491.out 0
  have hns22_0 := NB472_491.out
  have hns22_1 := NB473_491.out
  have hns22_2 := NB490_491.out
  have hms22_0 := NB491_472.out
  have hms22_1 := NB491_473.out
  have hms22_2 := NB491_490.out
  have hs24 : w15.cell? ⟨gb491, 1, none⟩ = some (.slice none 0 0) := (blk_cell BK491.out 1).trans rfl
  have hfs24 := blk_frozen BK491.out 1
  have hns24_0 := NB472_491.out
  have hns24_1 := NB473_491.out
  have hns24_2 := NB490_491.out
  have hms24_0 := NB491_472.out
  have hms24_1 := NB491_473.out
  have hms24_2 := NB491_490.out
  have hs25 : w15.cell? ⟨gb491, 2, none⟩ = some (.bool false) := (blk_cell BK491.out 2).trans rfl
  have hfs25 := blk_frozen BK491.out 2
  have hns25_0 := NB472_491.out
  have hns25_1 := NB473_491.out
  have hns25_2 := NB490_491.out
  have hms25_0 := NB491_472.out
  have hms25_1 := NB491_473.out
  have hms25_2 := NB491_490.out
  have hs27 : w15.cell? ⟨gb491, 3, none⟩ = some (.slice none 0 0) := (blk_cell BK491.out 3).trans rfl
  have hfs27 := blk_frozen BK491.out 3
  have hns27_0 := NB472_491.out
  have hns27_1 := NB473_491.out
  have hns27_2 := NB490_491.out
  have hms27_0 := NB491_472.out
  have hms27_1 := NB491_473.out
  have hms27_2 := NB491_490.out
  refine skip_ (w1 := ?_) (by rfl) rfl ?_ ?_
  rotate_left
  ·go_simp
   rfl
  refine hK.out _ _ ⟨((cell_far (p := ⟨gb491, _, none⟩) NB472_491.out _).trans (((cell_far (p := ⟨gb491, _, none⟩) NB472_491.out _).trans (((cell_far (p := ⟨gb491, _, none⟩) NB472_491.out _).trans (((cell_far (p := ⟨gb491, _, none⟩) NB472_491.out _).trans (hHeld.1)))))))), ((cell_far (p := ⟨gb491, _, none⟩) NB472_491.out _).trans (((cell_far (p := ⟨gb491, _, none⟩) NB472_491.out _).trans (((cell_far (p := ⟨gb491, _, none⟩) NB472_491.out _).trans (((cell_far (p := ⟨gb491, _, none⟩) NB472_491.out _).trans (hHeld.2.1)))))))), ((cell_far (p := ⟨gb491, _, none⟩) NB472_491.out _).trans (((cell_far (p := ⟨gb491, _, none⟩) NB472_491.out _).trans (((cell_far (p := ⟨gb491, _, none⟩) NB472_491.out _).trans (((cell_far (p := ⟨gb491, _, none⟩) NB472_491.out _).trans (hHeld.2.2.1)))))))), ((cell_far (p := ⟨gb491, _, none⟩) NB472_491.out _).trans (((cell_far (p := ⟨gb491, _, none⟩) NB472_491.out _).trans (((cell_far (p := ⟨gb491, _, none⟩) NB472_491.out _).trans (((cell_far (p := ⟨gb491, _, none⟩) NB472_491.out _).trans (hHeld.2.2.2.1)))))))), ((cell_far (p := ⟨gb491, _, none⟩) NB473_491.out _).trans (((cell_far (p := ⟨gb491, _, none⟩) NB473_491.out _).trans (((cell_far (p := ⟨gb491, _, none⟩) NB473_491.out _).trans (((cell_far (p := ⟨gb491, _, none⟩) NB473_491.out _).trans (hHeld.2.2.2.2.1)))))))), ((cell_far (p := ⟨gb491, _, none⟩) NB473_491.out _).trans (((cell_far (p := ⟨gb491, _, none⟩) NB473_491.out _).trans (((cell_far (p := ⟨gb491, _, none⟩) NB473_491.out _).trans (((cell_far (p := ⟨gb491, _, none⟩) NB473_491.out _).trans (hHeld.2.2.2.2.2.1)))))))), ((cell_far (p := ⟨gb491, _, none⟩) NB473_491.out _).trans (((cell_far (p := ⟨gb491, _, none⟩) NB473_491.out _).trans (((cell_far (p := ⟨gb491, _, none⟩) NB473_491.out _).trans (((cell_far (p := ⟨gb491, _, none⟩) NB473_491.out _).trans (hHeld.2.2.2.2.2.2.1)))))))), ((cell_far (p := ⟨gb491, _, none⟩) NB473_491.out _).trans (((cell_far (p := ⟨gb491, _, none⟩) NB473_491.out _).trans (((cell_far (p := ⟨gb491, _, none⟩) NB473_491.out _).trans (((cell_far (p := ⟨gb491, _, none⟩) NB473_491.out _).trans (hHeld.2.2.2.2.2.2.2))))))))⟩ (fun hHeld => ?_)
  clear hK K
  refine done_ (done_of HT_.out m_13) ?_
  try go_wp2
  have n0_ : Aside0 (Kd.V (Kd.int .u32) 117 ((((((((w15.setCell ⟨gb490, 0, none⟩ (.bool t474)).setCell ⟨gb490, 1, none⟩ (.slice Ao17 t475.length co17)).setCell ⟨gb490, 2, none⟩ (.bool t478)).setCell ⟨gb490, 3, none⟩ (.slice Ao20 t479.length co20)).setCell ⟨gb491, 0, none⟩ (.bool t482)).setCell ⟨gb491, 1, none⟩ (.slice Ao23 t483.length co23)).setCell ⟨gb491, 2, none⟩ (.bool t486)).setCell ⟨gb491, 3, none⟩ (.slice Ao26 t487.length co26)) w.heap.size (fun k_ => k_ ≠ gb472 ∧ k_ ≠ gb473 ∧ k_ ≠ gb490 ∧ k_ ≠ gb491) (.slice Ao17 t475.length co17) t475) := ⟨(by (with_reducible repeat (first | apply Kd.V_alloc | apply Kd.V_drewN | apply Kd.V_drew)); exact Kd.V_mono (Kd.V_far (p := ⟨gb491, 3, none⟩) (Kd.V_far (p := ⟨gb491, 2, none⟩) (Kd.V_far (p := ⟨gb491, 1, none⟩) (Kd.V_far (p := ⟨gb491, 0, none⟩) (Kd.V_far (p := ⟨gb490, 3, none⟩) (Kd.V_far (p := ⟨gb490, 2, none⟩) (Kd.V_far (p := ⟨gb490, 1, none⟩) (Kd.V_far (p := ⟨gb490, 0, none⟩) (Kd.V_mono (Kd.V_mono HO477.out (fun k_ hk => (⟨hk, hk.2.2.1⟩ : _ ∧ k_ ≠ gb490))) (fun k_ hk => (⟨hk, hk.1.2.2.2⟩ : _ ∧ k_ ≠ gb491))) (fun _ hk => hk.1.2) (.bool t474)) (fun _ hk => hk.1.2) (.slice Ao17 t475.length co17)) (fun _ hk => hk.1.2) (.bool t478)) (fun _ hk => hk.1.2) (.slice Ao20 t479.length co20)) (fun _ hk => hk.2) (.bool t482)) (fun _ hk => hk.2) (.slice Ao23 t483.length co23)) (fun _ hk => hk.2) (.bool t486)) (fun _ hk => hk.2) (.slice Ao26 t487.length co26)) (fun _ hk => ⟨hk.1.1.1, ⟨hk.1.1.2.1, ⟨hk.1.1.2.2.1, hk.1.1.2.2.2⟩⟩⟩))⟩
  have n1_ : Aside0 (Kd.V (Kd.int .u32) 117 ((((((((w15.setCell ⟨gb490, 0, none⟩ (.bool t474)).setCell ⟨gb490, 1, none⟩ (.slice Ao17 t475.length co17)).setCell ⟨gb490, 2, none⟩ (.bool t478)).setCell ⟨gb490, 3, none⟩ (.slice Ao20 t479.length co20)).setCell ⟨gb491, 0, none⟩ (.bool t482)).setCell ⟨gb491, 1, none⟩ (.slice Ao23 t483.length co23)).setCell ⟨gb491, 2, none⟩ (.bool t486)).setCell ⟨gb491, 3, none⟩ (.slice Ao26 t487.length co26)) w.heap.size (fun k_ => k_ ≠ gb472 ∧ k_ ≠ gb473 ∧ k_ ≠ gb490 ∧ k_ ≠ gb491) (.slice Ao20 t479.length co20) t479) := ⟨(by (with_reducible repeat (first | apply Kd.V_alloc | apply Kd.V_drewN | apply Kd.V_drew)); exact Kd.V_mono (Kd.V_far (p := ⟨gb491, 3, none⟩) (Kd.V_far (p := ⟨gb491, 2, none⟩) (Kd.V_far (p := ⟨gb491, 1, none⟩) (Kd.V_far (p := ⟨gb491, 0, none⟩) (Kd.V_far (p := ⟨gb490, 3, none⟩) (Kd.V_far (p := ⟨gb490, 2, none⟩) (Kd.V_far (p := ⟨gb490, 1, none⟩) (Kd.V_far (p := ⟨gb490, 0, none⟩) (Kd.V_mono (Kd.V_mono HO481.out (fun k_ hk => (⟨hk, hk.2.2.1⟩ : _ ∧ k_ ≠ gb490))) (fun k_ hk => (⟨hk, hk.1.2.2.2⟩ : _ ∧ k_ ≠ gb491))) (fun _ hk => hk.1.2) (.bool t474)) (fun _ hk => hk.1.2) (.slice Ao17 t475.length co17)) (fun _ hk => hk.1.2) (.bool t478)) (fun _ hk => hk.1.2) (.slice Ao20 t479.length co20)) (fun _ hk => hk.2) (.bool t482)) (fun _ hk => hk.2) (.slice Ao23 t483.length co23)) (fun _ hk => hk.2) (.bool t486)) (fun _ hk => hk.2) (.slice Ao26 t487.length co26)) (fun _ hk => ⟨hk.1.1.1, ⟨hk.1.1.2.1, ⟨hk.1.1.2.2.1, hk.1.1.2.2.2⟩⟩⟩))⟩
  have n2_ : Aside0 (Kd.V (Kd.int .u32) 117 ((((((((w15.setCell ⟨gb490, 0, none⟩ (.bool t474)).setCell ⟨gb490, 1, none⟩ (.slice Ao17 t475.length co17)).setCell ⟨gb490, 2, none⟩ (.bool t478)).setCell ⟨gb490, 3, none⟩ (.slice Ao20 t479.length co20)).setCell ⟨gb491, 0, none⟩ (.bool t482)).setCell ⟨gb491, 1, none⟩ (.slice Ao23 t483.length co23)).setCell ⟨gb491, 2, none⟩ (.bool t486)).setCell ⟨gb491, 3, none⟩ (.slice Ao26 t487.length co26)) w.heap.size (fun k_ => k_ ≠ gb472 ∧ k_ ≠ gb473 ∧ k_ ≠ gb490 ∧ k_ ≠ gb491) (.slice Ao23 t483.length co23) t483) := ⟨(by (with_reducible repeat (first | apply Kd.V_alloc | apply Kd.V_drewN | apply Kd.V_drew)); exact Kd.V_mono (Kd.V_far (p := ⟨gb491, 3, none⟩) (Kd.V_far (p := ⟨gb491, 2, none⟩) (Kd.V_far (p := ⟨gb491, 1, none⟩) (Kd.V_far (p := ⟨gb491, 0, none⟩) (Kd.V_far (p := ⟨gb490, 3, none⟩) (Kd.V_far (p := ⟨gb490, 2, none⟩) (Kd.V_far (p := ⟨gb490, 1, none⟩) (Kd.V_far (p := ⟨gb490, 0, none⟩) (Kd.V_mono (Kd.V_mono HO485.out (fun k_ hk => (⟨hk, hk.2.2.1⟩ : _ ∧ k_ ≠ gb490))) (fun k_ hk => (⟨hk, hk.1.2.2.2⟩ : _ ∧ k_ ≠ gb491))) (fun _ hk => hk.1.2) (.bool t474)) (fun _ hk => hk.1.2) (.slice Ao17 t475.length co17)) (fun _ hk => hk.1.2) (.bool t478)) (fun _ hk => hk.1.2) (.slice Ao20 t479.length co20)) (fun _ hk => hk.2) (.bool t482)) (fun _ hk => hk.2) (.slice Ao23 t483.length co23)) (fun _ hk => hk.2) (.bool t486)) (fun _ hk => hk.2) (.slice Ao26 t487.length co26)) (fun _ hk => ⟨hk.1.1.1, ⟨hk.1.1.2.1, ⟨hk.1.1.2.2.1, hk.1.1.2.2.2⟩⟩⟩))⟩
  have n3_ : Aside0 (Kd.V (Kd.int .u32) 117 ((((((((w15.setCell ⟨gb490, 0, none⟩ (.bool t474)).setCell ⟨gb490, 1, none⟩ (.slice Ao17 t475.length co17)).setCell ⟨gb490, 2, none⟩ (.bool t478)).setCell ⟨gb490, 3, none⟩ (.slice Ao20 t479.length co20)).setCell ⟨gb491, 0, none⟩ (.bool t482)).setCell ⟨gb491, 1, none⟩ (.slice Ao23 t483.length co23)).setCell ⟨gb491, 2, none⟩ (.bool t486)).setCell ⟨gb491, 3, none⟩ (.slice Ao26 t487.length co26)) w.heap.size (fun k_ => k_ ≠ gb472 ∧ k_ ≠ gb473 ∧ k_ ≠ gb490 ∧ k_ ≠ gb491) (.slice Ao26 t487.length co26) t487) := ⟨(by (with_reducible repeat (first | apply Kd.V_alloc | apply Kd.V_drewN | apply Kd.V_drew)); exact Kd.V_mono (Kd.V_far (p := ⟨gb491, 3, none⟩) (Kd.V_far (p := ⟨gb491, 2, none⟩) (Kd.V_far (p := ⟨gb491, 1, none⟩) (Kd.V_far (p := ⟨gb491, 0, none⟩) (Kd.V_far (p := ⟨gb490, 3, none⟩) (Kd.V_far (p := ⟨gb490, 2, none⟩) (Kd.V_far (p := ⟨gb490, 1, none⟩) (Kd.V_far (p := ⟨gb490, 0, none⟩) (Kd.V_mono (Kd.V_mono HO489.out (fun k_ hk => (⟨hk, hk.2.2.1⟩ : _ ∧ k_ ≠ gb490))) (fun k_ hk => (⟨hk, hk.1.2.2.2⟩ : _ ∧ k_ ≠ gb491))) (fun _ hk => hk.1.2) (.bool t474)) (fun _ hk => hk.1.2) (.slice Ao17 t475.length co17)) (fun _ hk => hk.1.2) (.bool t478)) (fun _ hk => hk.1.2) (.slice Ao20 t479.length co20)) (fun _ hk => hk.2) (.bool t482)) (fun _ hk => hk.2) (.slice Ao23 t483.length co23)) (fun _ hk => hk.2) (.bool t486)) (fun _ hk => hk.2) (.slice Ao26 t487.length co26)) (fun _ hk => ⟨hk.1.1.1, ⟨hk.1.1.2.1, ⟨hk.1.1.2.2.1, hk.1.1.2.2.2⟩⟩⟩))⟩
  have n4_ : Aside0 (((((((((w15.setCell ⟨gb490, 0, none⟩ (.bool t474)).setCell ⟨gb490, 1, none⟩ (.slice Ao17 t475.length co17)).setCell ⟨gb490, 2, none⟩ (.bool t478)).setCell ⟨gb490, 3, none⟩ (.slice Ao20 t479.length co20)).setCell ⟨gb491, 0, none⟩ (.bool t482)).setCell ⟨gb491, 1, none⟩ (.slice Ao23 t483.length co23)).setCell ⟨gb491, 2, none⟩ (.bool t486)).setCell ⟨gb491, 3, none⟩ (.slice Ao26 t487.length co26)).heap[gb472]? = some (.cells #[.bool a0_0, .slice A0_1 l0_1.length c0_1, .bool a0_2, .slice A0_3 l0_3.length c0_3] 66 (0, 0))) := ⟨(by (with_reducible repeat (first | refine blk_drewN ?_ _ | refine blk_drew ?_ | refine blk_alloc ?_ _)); refine blk_far ?_ NB472_491.out _; (with_reducible repeat (first | refine blk_drewN ?_ _ | refine blk_drew ?_ | refine blk_alloc ?_ _)); refine blk_far ?_ NB472_491.out _; (with_reducible repeat (first | refine blk_drewN ?_ _ | refine blk_drew ?_ | refine blk_alloc ?_ _)); refine blk_far ?_ NB472_491.out _; (with_reducible repeat (first | refine blk_drewN ?_ _ | refine blk_drew ?_ | refine blk_alloc ?_ _)); refine blk_far ?_ NB472_491.out _; (with_reducible repeat (first | refine blk_drewN ?_ _ | refine blk_drew ?_ | refine blk_alloc ?_ _)); refine blk_far ?_ NB472_490.out _; (with_reducible repeat (first | refine blk_drewN ?_ _ | refine blk_drew ?_ | refine blk_alloc ?_ _)); refine blk_far ?_ NB472_490.out _; (with_reducible repeat (first | refine blk_drewN ?_ _ | refine blk_drew ?_ | refine blk_alloc ?_ _)); refine blk_far ?_ NB472_490.out _; (with_reducible repeat (first | refine blk_drewN ?_ _ | refine blk_drew ?_ | refine blk_alloc ?_ _)); refine blk_far ?_ NB472_490.out _; (with_reducible repeat (first | refine blk_drewN ?_ _ | refine blk_drew ?_ | refine blk_alloc ?_ _)); exact BK472.out)⟩
  have n5_ : Aside0 (((((((((w15.setCell ⟨gb490, 0, none⟩ (.bool t474)).setCell ⟨gb490, 1, none⟩ (.slice Ao17 t475.length co17)).setCell ⟨gb490, 2, none⟩ (.bool t478)).setCell ⟨gb490, 3, none⟩ (.slice Ao20 t479.length co20)).setCell ⟨gb491, 0, none⟩ (.bool t482)).setCell ⟨gb491, 1, none⟩ (.slice Ao23 t483.length co23)).setCell ⟨gb491, 2, none⟩ (.bool t486)).setCell ⟨gb491, 3, none⟩ (.slice Ao26 t487.length co26)).heap[gb473]? = some (.cells #[.bool a1_0, .slice A1_1 l1_1.length c1_1, .bool a1_2, .slice A1_3 l1_3.length c1_3] 66 (0, 0))) := ⟨(by (with_reducible repeat (first | refine blk_drewN ?_ _ | refine blk_drew ?_ | refine blk_alloc ?_ _)); refine blk_far ?_ NB473_491.out _; (with_reducible repeat (first | refine blk_drewN ?_ _ | refine blk_drew ?_ | refine blk_alloc ?_ _)); refine blk_far ?_ NB473_491.out _; (with_reducible repeat (first | refine blk_drewN ?_ _ | refine blk_drew ?_ | refine blk_alloc ?_ _)); refine blk_far ?_ NB473_491.out _; (with_reducible repeat (first | refine blk_drewN ?_ _ | refine blk_drew ?_ | refine blk_alloc ?_ _)); refine blk_far ?_ NB473_491.out _; (with_reducible repeat (first | refine blk_drewN ?_ _ | refine blk_drew ?_ | refine blk_alloc ?_ _)); refine blk_far ?_ NB473_490.out _; (with_reducible repeat (first | refine blk_drewN ?_ _ | refine blk_drew ?_ | refine blk_alloc ?_ _)); refine blk_far ?_ NB473_490.out _; (with_reducible repeat (first | refine blk_drewN ?_ _ | refine blk_drew ?_ | refine blk_alloc ?_ _)); refine blk_far ?_ NB473_490.out _; (with_reducible repeat (first | refine blk_drewN ?_ _ | refine blk_drew ?_ | refine blk_alloc ?_ _)); refine blk_far ?_ NB473_490.out _; (with_reducible repeat (first | refine blk_drewN ?_ _ | refine blk_drew ?_ | refine blk_alloc ?_ _)); exact BK473.out)⟩
  have n6_ : Aside0 (((((((((w15.setCell ⟨gb490, 0, none⟩ (.bool t474)).setCell ⟨gb490, 1, none⟩ (.slice Ao17 t475.length co17)).setCell ⟨gb490, 2, none⟩ (.bool t478)).setCell ⟨gb490, 3, none⟩ (.slice Ao20 t479.length co20)).setCell ⟨gb491, 0, none⟩ (.bool t482)).setCell ⟨gb491, 1, none⟩ (.slice Ao23 t483.length co23)).setCell ⟨gb491, 2, none⟩ (.bool t486)).setCell ⟨gb491, 3, none⟩ (.slice Ao26 t487.length co26)).heap[gb490]? = some (.cells #[.bool t474, .slice Ao17 t475.length co17, .bool t478, .slice Ao20 t479.length co20] 120 (0, 0))) := ⟨(by (with_reducible repeat (first | refine blk_drewN ?_ _ | refine blk_drew ?_ | refine blk_alloc ?_ _)); refine blk_far ?_ NB490_491.out _; (with_reducible repeat (first | refine blk_drewN ?_ _ | refine blk_drew ?_ | refine blk_alloc ?_ _)); refine blk_far ?_ NB490_491.out _; (with_reducible repeat (first | refine blk_drewN ?_ _ | refine blk_drew ?_ | refine blk_alloc ?_ _)); refine blk_far ?_ NB490_491.out _; (with_reducible repeat (first | refine blk_drewN ?_ _ | refine blk_drew ?_ | refine blk_alloc ?_ _)); refine blk_far ?_ NB490_491.out _; (with_reducible repeat (first | refine blk_drewN ?_ _ | refine blk_drew ?_ | refine blk_alloc ?_ _)); refine blk_put (cs := #[.bool t474, .slice Ao17 t475.length co17, .bool t478, .slice none 0 0]) ?_ 3 _ rfl; (with_reducible repeat (first | refine blk_drewN ?_ _ | refine blk_drew ?_ | refine blk_alloc ?_ _)); refine blk_put (cs := #[.bool t474, .slice Ao17 t475.length co17, .bool false, .slice none 0 0]) ?_ 2 _ rfl; (with_reducible repeat (first | refine blk_drewN ?_ _ | refine blk_drew ?_ | refine blk_alloc ?_ _)); refine blk_put (cs := #[.bool t474, .slice none 0 0, .bool false, .slice none 0 0]) ?_ 1 _ rfl; (with_reducible repeat (first | refine blk_drewN ?_ _ | refine blk_drew ?_ | refine blk_alloc ?_ _)); refine blk_put (cs := #[.bool false, .slice none 0 0, .bool false, .slice none 0 0]) ?_ 0 _ rfl; (with_reducible repeat (first | refine blk_drewN ?_ _ | refine blk_drew ?_ | refine blk_alloc ?_ _)); exact BK490.out)⟩
  have n7_ : Aside0 (((((((((w15.setCell ⟨gb490, 0, none⟩ (.bool t474)).setCell ⟨gb490, 1, none⟩ (.slice Ao17 t475.length co17)).setCell ⟨gb490, 2, none⟩ (.bool t478)).setCell ⟨gb490, 3, none⟩ (.slice Ao20 t479.length co20)).setCell ⟨gb491, 0, none⟩ (.bool t482)).setCell ⟨gb491, 1, none⟩ (.slice Ao23 t483.length co23)).setCell ⟨gb491, 2, none⟩ (.bool t486)).setCell ⟨gb491, 3, none⟩ (.slice Ao26 t487.length co26)).heap[gb491]? = some (.cells #[.bool t482, .slice Ao23 t483.length co23, .bool t486, .slice Ao26 t487.length co26] 120 (0, 0))) := ⟨(by (with_reducible repeat (first | refine blk_drewN ?_ _ | refine blk_drew ?_ | refine blk_alloc ?_ _)); refine blk_put (cs := #[.bool t482, .slice Ao23 t483.length co23, .bool t486, .slice none 0 0]) ?_ 3 _ rfl; (with_reducible repeat (first | refine blk_drewN ?_ _ | refine blk_drew ?_ | refine blk_alloc ?_ _)); refine blk_put (cs := #[.bool t482, .slice Ao23 t483.length co23, .bool false, .slice none 0 0]) ?_ 2 _ rfl; (with_reducible repeat (first | refine blk_drewN ?_ _ | refine blk_drew ?_ | refine blk_alloc ?_ _)); refine blk_put (cs := #[.bool t482, .slice none 0 0, .bool false, .slice none 0 0]) ?_ 1 _ rfl; (with_reducible repeat (first | refine blk_drewN ?_ _ | refine blk_drew ?_ | refine blk_alloc ?_ _)); refine blk_put (cs := #[.bool false, .slice none 0 0, .bool false, .slice none 0 0]) ?_ 0 _ rfl; (with_reducible repeat (first | refine blk_drewN ?_ _ | refine blk_drew ?_ | refine blk_alloc ?_ _)); refine blk_far ?_ NB491_490.out _; (with_reducible repeat (first | refine blk_drewN ?_ _ | refine blk_drew ?_ | refine blk_alloc ?_ _)); refine blk_far ?_ NB491_490.out _; (with_reducible repeat (first | refine blk_drewN ?_ _ | refine blk_drew ?_ | refine blk_alloc ?_ _)); refine blk_far ?_ NB491_490.out _; (with_reducible repeat (first | refine blk_drewN ?_ _ | refine blk_drew ?_ | refine blk_alloc ?_ _)); refine blk_far ?_ NB491_490.out _; (with_reducible repeat (first | refine blk_drewN ?_ _ | refine blk_drew ?_ | refine blk_alloc ?_ _)); exact BK491.out)⟩
  have n8_ : Aside0 (Below w.heap.size w ((((((((w15.setCell ⟨gb490, 0, none⟩ (.bool t474)).setCell ⟨gb490, 1, none⟩ (.slice Ao17 t475.length co17)).setCell ⟨gb490, 2, none⟩ (.bool t478)).setCell ⟨gb490, 3, none⟩ (.slice Ao20 t479.length co20)).setCell ⟨gb491, 0, none⟩ (.bool t482)).setCell ⟨gb491, 1, none⟩ (.slice Ao23 t483.length co23)).setCell ⟨gb491, 2, none⟩ (.bool t486)).setCell ⟨gb491, 3, none⟩ (.slice Ao26 t487.length co26))) := ⟨m_33⟩
  (try clear HO477); (try clear HO481); (try clear HO485); (try clear HO489); (try clear BK472); (try clear BK473); (try clear BK490); (try clear BK491); (try clear HB)
  generalize ((((((((w15.setCell ⟨gb490, 0, none⟩ (.bool t474)).setCell ⟨gb490, 1, none⟩ (.slice Ao17 t475.length co17)).setCell ⟨gb490, 2, none⟩ (.bool t478)).setCell ⟨gb490, 3, none⟩ (.slice Ao20 t479.length co20)).setCell ⟨gb491, 0, none⟩ (.bool t482)).setCell ⟨gb491, 1, none⟩ (.slice Ao23 t483.length co23)).setCell ⟨gb491, 2, none⟩ (.bool t486)).setCell ⟨gb491, 3, none⟩ (.slice Ao26 t487.length co26)) = w28 at n0_ n1_ n2_ n3_ n4_ n5_ n6_ n7_ n8_ ⊢
  have HO477 := n0_
  have HO481 := n1_
  have HO485 := n2_
  have HO489 := n3_
  have BK472 := n4_
  have BK473 := n5_
  have BK490 := n6_
  have BK491 := n7_
  have HB := n8_
  clear n0_ n1_ n2_ n3_ n4_ n5_ n6_ n7_ n8_
  replace HO477 := vD_ HO477
  replace HO481 := vD_ HO481
  replace HO485 := vD_ HO485
  replace HO489 := vD_ HO489
  replace BK472 := bD_ BK472
  replace BK473 := bD_ BK473
  replace BK490 := bD_ BK490
  replace BK491 := bD_ BK491
  replace HB := Aside0.mk (below_drew1 HB.out)
  refine start_ (n := 12) (S := fun w' => w'.cell? ⟨gb490, 0, none⟩ = some (.bool t474) ∧ w'.cell? ⟨gb490, 1, none⟩ = some (.slice Ao17 t475.length co17) ∧ w'.cell? ⟨gb490, 2, none⟩ = some (.bool t478) ∧ w'.cell? ⟨gb490, 3, none⟩ = some (.slice Ao20 t479.length co20) ∧ w'.cell? ⟨gb491, 0, none⟩ = some (.bool t482) ∧ w'.cell? ⟨gb491, 1, none⟩ = some (.slice Ao23 t483.length co23) ∧ w'.cell? ⟨gb491, 2, none⟩ = some (.bool t486) ∧ w'.cell? ⟨gb491, 3, none⟩ = some (.slice Ao26 t487.length co26)) (ds := []) #[false, false, false, false, false, false, false, false, false, false, false, false] m_13 rfl rfl ⟨(blk_cell BK490.out 0).trans rfl, (blk_cell BK490.out 1).trans rfl, (blk_cell BK490.out 2).trans rfl, (blk_cell BK490.out 3).trans rfl, (blk_cell BK491.out 0).trans rfl, (blk_cell BK491.out 1).trans rfl, (blk_cell BK491.out 2).trans rfl, (blk_cell BK491.out 3).trans rfl⟩ (fun hHeld => ?_); refine with_tabW fracK_Cmp.tab2 fracK_Cmp.bits2 (fun HT_ HW_ => ?_)
  generalize w28.drew = w29 at HO477 HO481 HO485 HO489 BK472 BK473 BK490 BK491 HB hHeld ⊢
  refine pA_ 0 HT_.out ?_
  refine pA_ 2 HT_.out ?_
  refine pA_ 5 HT_.out ?_
  refine pA_ 7 HT_.out ?_
  refine tA_ 1 HT_.out HW_.out hHeld ?_
  refine tA_ 3 HT_.out HW_.out hHeld ?_
  refine tA_ 6 HT_.out HW_.out hHeld ?_
  refine tA_ 8 HT_.out HW_.out hHeld ?_
  refine cB_1 4 Try.func84 (args := #[.agg #[.bool t474, .slice Ao17 t475.length co17], .agg #[.bool t486, .slice Ao26 t487.length co26]]) ?_
  with_reducible refine (whole_Mul.calls k t474 (fun k_ => (k_ ≠ gb472 ∧ (k_ ≠ gb473 ∧ (k_ ≠ gb490 ∧ k_ ≠ gb491)))) _ _ t475 t486 (fun k_ => (k_ ≠ gb472 ∧ (k_ ≠ gb473 ∧ (k_ ≠ gb490 ∧ k_ ≠ gb491)))) _ _ t487 t492 t493 _ ?side1 ?side2 A5.out).mono ?_
  (case side1 => exact HO477.out)
  (case side2 => exact HO489.out)
  rintro e w30 ⟨v494, rfl, ho0, hb⟩
  refine ⟨_, rfl, ?_⟩
  have HO495 := Aside0.mk (Kd.V_lower (Kd.V_mono (ok' := fun k_ => k_ ≠ gb472 ∧ k_ ≠ gb473 ∧ k_ ≠ gb490 ∧ k_ ≠ gb491) ho0 (fun k_ hk_ => ⟨Or.elim hk_ (fun hs_ => Or.elim hs_ (fun hs_ => hs_.1) (fun hs_ => hs_.1)) (fun hn_ => (Kd.freshB (bA_ BK472.out) k_ hn_)), Or.elim hk_ (fun hs_ => Or.elim hs_ (fun hs_ => hs_.2.1) (fun hs_ => hs_.2.1)) (fun hn_ => (Kd.freshB (bA_ BK473.out) k_ hn_)), Or.elim hk_ (fun hs_ => Or.elim hs_ (fun hs_ => hs_.2.2.1) (fun hs_ => hs_.2.2.1)) (fun hn_ => (Kd.freshB (bA_ BK490.out) k_ hn_)), Or.elim hk_ (fun hs_ => Or.elim hs_ (fun hs_ => hs_.2.2.2) (fun hs_ => hs_.2.2.2)) (fun hn_ => (Kd.freshB (bA_ BK491.out) k_ hn_))⟩)) (below_size m_33))
  replace HO477 := vB_ HO477 hb
  replace HO481 := vB_ HO481 hb
  replace HO485 := vB_ HO485 hb
  replace HO489 := vB_ HO489 hb
  replace BK472 := bB_ BK472 hb
  replace BK473 := bB_ BK473 hb
  replace BK490 := bB_ BK490 hb
  replace BK491 := bB_ BK491 hb
  replace HB := Aside0.mk (below_step m_33 hb)
  (try clear hb); (try clear hb2); (try clear hk); (try clear hi); (try clear ho0)
  refine nx_ ⟨(blk_cell BK490.out 0).trans rfl, (blk_cell BK490.out 1).trans rfl, (blk_cell BK490.out 2).trans rfl, (blk_cell BK490.out 3).trans rfl, (blk_cell BK491.out 0).trans rfl, (blk_cell BK491.out 1).trans rfl, (blk_cell BK491.out 2).trans rfl, (blk_cell BK491.out 3).trans rfl⟩ (fun hHeld => ?_)
  refine cB_1 9 Try.func84 (args := #[.agg #[.bool t482, .slice Ao23 t483.length co23], .agg #[.bool t478, .slice Ao20 t479.length co20]]) ?_
  with_reducible refine (whole_Mul.calls k t482 (fun k_ => (k_ ≠ gb472 ∧ (k_ ≠ gb473 ∧ (k_ ≠ gb490 ∧ k_ ≠ gb491)))) _ _ t483 t478 (fun k_ => (k_ ≠ gb472 ∧ (k_ ≠ gb473 ∧ (k_ ≠ gb490 ∧ k_ ≠ gb491)))) _ _ t479 t496 t497 _ ?side1 ?side2 A6.out).mono ?_
  (case side1 => exact HO485.out)
  (case side2 => exact HO481.out)
  rintro e w31 ⟨v498, rfl, ho0, hb⟩
  refine ⟨_, rfl, ?_⟩
  have HO499 := Aside0.mk (Kd.V_lower (Kd.V_mono (ok' := fun k_ => k_ ≠ gb472 ∧ k_ ≠ gb473 ∧ k_ ≠ gb490 ∧ k_ ≠ gb491) ho0 (fun k_ hk_ => ⟨Or.elim hk_ (fun hs_ => Or.elim hs_ (fun hs_ => hs_.1) (fun hs_ => hs_.1)) (fun hn_ => (Kd.freshB (bA_ BK472.out) k_ hn_)), Or.elim hk_ (fun hs_ => Or.elim hs_ (fun hs_ => hs_.2.1) (fun hs_ => hs_.2.1)) (fun hn_ => (Kd.freshB (bA_ BK473.out) k_ hn_)), Or.elim hk_ (fun hs_ => Or.elim hs_ (fun hs_ => hs_.2.2.1) (fun hs_ => hs_.2.2.1)) (fun hn_ => (Kd.freshB (bA_ BK490.out) k_ hn_)), Or.elim hk_ (fun hs_ => Or.elim hs_ (fun hs_ => hs_.2.2.2) (fun hs_ => hs_.2.2.2)) (fun hn_ => (Kd.freshB (bA_ BK491.out) k_ hn_))⟩)) (below_size m_33))
  replace HO477 := vB_ HO477 hb
  replace HO481 := vB_ HO481 hb
  replace HO485 := vB_ HO485 hb
  replace HO489 := vB_ HO489 hb
  replace HO495 := vB_ HO495 hb
  replace BK472 := bB_ BK472 hb
  replace BK473 := bB_ BK473 hb
  replace BK490 := bB_ BK490 hb
  replace BK491 := bB_ BK491 hb
  replace HB := Aside0.mk (below_step m_33 hb)
  (try clear hb); (try clear hb2); (try clear hk); (try clear hi); (try clear ho0)
  obtain ⟨Ao32, co32, eo32⟩ := Kd.V_slice HO495.out
  (first | subst eo32 | (injection eo32 with f1_ f2_ f3_; have f4_ := f1_.symm; have f5_ := f3_.symm; clear f1_ f2_ f3_; subst f4_; subst f5_))
  obtain ⟨Ao33, co33, eo33⟩ := Kd.V_slice HO499.out
  (first | subst eo33 | (injection eo33 with f1_ f2_ f3_; have f4_ := f1_.symm; have f5_ := f3_.symm; clear f1_ f2_ f3_; subst f4_; subst f5_))
  refine nx_ ⟨(blk_cell BK490.out 0).trans rfl, (blk_cell BK490.out 1).trans rfl, (blk_cell BK490.out 2).trans rfl, (blk_cell BK490.out 3).trans rfl, (blk_cell BK491.out 0).trans rfl, (blk_cell BK491.out 1).trans rfl, (blk_cell BK491.out 2).trans rfl, (blk_cell BK491.out 3).trans rfl⟩ (fun hHeld => ?_)
  refine cB_1 10 Try.func83 (args := #[.agg #[.bool t492, .slice Ao32 t493.length co32], .agg #[.bool t496, .slice Ao33 t497.length co33]]) ?_
  with_reducible refine (whole_Cmp.calls k t492 _ _ t493 t496 _ _ t497 t500 _ ?side1 ?side2 ?side3 ?side4 A7.out).mono ?_
  (case side1 => exact cA_ (Kd.V_reads' HO495.out).2.2)
  (case side2 => exact (Kd.V_reads' HO495.out).2.1)
  (case side3 => exact cA_ (Kd.V_reads' HO499.out).2.2)
  (case side4 => exact (Kd.V_reads' HO499.out).2.1)
  rintro e w34 ⟨rfl, hb⟩
  refine ⟨_, rfl, ?_⟩
  replace HO477 := vB_ HO477 hb
  replace HO481 := vB_ HO481 hb
  replace HO485 := vB_ HO485 hb
  replace HO489 := vB_ HO489 hb
  replace HO495 := vB_ HO495 hb
  replace HO499 := vB_ HO499 hb
  replace BK472 := bB_ BK472 hb
  replace BK473 := bB_ BK473 hb
  replace BK490 := bB_ BK490 hb
  replace BK491 := bB_ BK491 hb
  replace HB := Aside0.mk (below_step m_33 hb)
  (try clear hb); (try clear hb2); (try clear hk); (try clear hi)
  refine nx_ ⟨(blk_cell BK490.out 0).trans rfl, (blk_cell BK490.out 1).trans rfl, (blk_cell BK490.out 2).trans rfl, (blk_cell BK490.out 3).trans rfl, (blk_cell BK491.out 0).trans rfl, (blk_cell BK491.out 1).trans rfl, (blk_cell BK491.out 2).trans rfl, (blk_cell BK491.out 3).trans rfl⟩ (fun hHeld => ?_)
  refine pA_ 11 HT_.out ?_
  refine done_ (done_of HT_.out m_13) ?_
  try go_wp2
  go_ret
  exact ⟨m_5, m_33⟩
end Go.Proofs.Ytelklgdmhnkenaa.U
namespace Go.Proofs.Ytelklgdmhnkenaa.U
attribute [local go_sem] max2_int min2_int max_two min_two max_three min_three max_four min_four
def whole_small.l0 : Nat → List Int → Int → List Int → Int → Int → Int → Option (List Int × Int)
 | 0, _, _, _, _, _, _ => none
 | k + 1, x0, x1, x4, x5, x12, x13 => if x13 < x12 then (if 0 ≤ (wrap64 ((wrap64 ((x0.length : Int) - 1)) - x13)) then (if (wrap64 ((wrap64 ((x0.length : Int) - 1)) - x13)) < (x0.length : Int) then (if x1 = 0 then (none) else (if (wrap64 ((wrap64 ((x0.length : Int) - 1)) - x13)) < (x4.length : Int) then (whole_small.l0 k x0 x1 (x4.set ((wrap64 ((wrap64 ((x0.length : Int) - 1)) - x13)) : Int).toNat ((IntKind.u64.wrap (Int.tdiv (IntKind.u64.wrap ((IntKind.u64.wrap (x5 * 4294967296)) + (IntKind.u64.wrap (rd x0 (wrap64 ((wrap64 ((x0.length : Int) - 1)) - x13)))))) x1)) % 4294967296)) (Int.tmod (IntKind.u64.wrap ((IntKind.u64.wrap (x5 * 4294967296)) + (IntKind.u64.wrap (rd x0 (wrap64 ((wrap64 ((x0.length : Int) - 1)) - x13)))))) x1) x12 (wrap64 (x13 + 1))) else (none))) else (none)) else (none)) else ((whole_trim.f k x4).bind fun t516 => (some (t516, x5)))
def whole_small.f (k : Nat) (l0 : List Int) (a1 : Int) : Option (List Int × Int) := if 0 ≤ (l0.length : Int) then (if ((l0.length : Int) : Int).toNat ≤ 70368744177664 then (whole_small.l0 k l0 a1 (List.replicate ((l0.length : Int) : Int).toNat 0) 0 (l0.length : Int) 0) else (none)) else (none)
def whole_small.T7 : Bool × List (List Nat × List Nat) := (true, [([], []), ([], []), ([], []), ([], []), ([2, 3], [2, 3]), ([4], [4]), ([], []), ([], []), ([6, 7], [6, 7]), ([0, 1, 0, 1, 2, 3, 4, 5], [0, 1]), ([9, 5, 0, 1, 2, 3, 4, 5], [5, 9]), ([8, 10, 0, 1, 2, 3, 4, 5, 6, 7, 8, 9, 10], [2, 6, 8])])
def whole_small.B7 : List Nat := [0, 0, 0, 0, 12, 28, 0, 0, 192, 63, 575, 2047]
theorem whole_small.tab7 : rtab .any (opsOf Try.f138 7) = whole_small.T7 := by kernel_rfl
theorem whole_small.bits7 : waitsOk whole_small.T7.2 whole_small.B7 = true := by kernel_rfl
set_option maxHeartbeats 8000000 in
set_option maxRecDepth 100000 in
theorem whole_small.calls (k : Nat) (A0 : Option Addr) (c0 : Nat) (l0 : List Int) (a1 : Int) (r1 : List Int) (r2 : Int) (w : World) (hr0 : Kd.C (Kd.int .u32) w A0 l0.length l0) (hc0 : l0.length ≤ c0) (h : whole_small.f k l0 a1 = some (r1, r2)) :
  Calls Try.prog 138 #[.slice A0 l0.length c0, .int .u64 a1] w fun e w' => ∃ v0_ : Value, e = .returned (.tuple #[v0_, .int .u64 r2]) ∧ Kd.V (Kd.int .u32) 117 w' w.heap.size (fun k_ => (w.heap.size ≤ k_)) v0_ r1 ∧ Below w.heap.size w w' := by
 have HR0 := Aside0.mk hr0
 clear hr0 hc0
 have HB := Aside0.mk (Below.refl w.heap.size w)
 have H : (if 0 ≤ (l0.length : Int) then (if ((l0.length : Int) : Int).toNat ≤ 70368744177664 then (whole_small.l0 k l0 a1 (List.replicate ((l0.length : Int) : Int).toNat 0) 0 (l0.length : Int) 0) else (none)) else (none)) = some (r1, r2) := h
 clear h
 by_cases c3 : 0 ≤ (l0.length : Int)
 ·rw [if_pos c3] at H
  have c3b1 : decide (0 ≤ (l0.length : Int)) = true := decide_eq_true c3
  clear c3
  by_cases c4 : ((l0.length : Int) : Int).toNat ≤ 70368744177664
  ·rw [if_pos c4] at H
   have c4b1 : decide (((l0.length : Int) : Int).toNat ≤ 70368744177664) = true := decide_eq_true c4
   clear c4
   obtain ⟨y511, hy511⟩ : ∃ y_ : List Int, y_ = (List.replicate ((l0.length : Int) : Int).toNat 0) := ⟨_, rfl⟩
   replace H : (whole_small.l0 k l0 a1 y511 0 (l0.length : Int) 0) = some (r1, r2) := by first | (rw [hy511]; with_reducible exact H) | (have H2_ := (Option.bind_some _ _).symm.trans H; rw [hy511]; with_reducible exact H2_) | (have H2_ := (Option.bind_some _ _).symm.trans H; with_reducible exact H2_) | with_reducible exact H | (rw [hy511]; exact H) | exact H
   have Ny511 := Aside0.mk hy511
   clear hy511
   have H' := Aside0.mk H
   clear H
   go_enter Try.func138, Try.ntmps138
   go_wp2_with (first | ((with_reducible refine gate_dst (N := 10) rfl ?_); refine Kd.R_make (Kd.int .u32) _ 117 rfl (N := 10) rfl 62 _ _ rfl (l0.length : Int) rfl rfl Try.underlying62 (.int .u32 0) 4 info117 rfl (by decide) (by omega) 0 (ok := fun _ => True) (okp := fun _ => True) rfl (fun _ hk => hk) trivial (of_decide_eq_true m_4) (Nat.le_trans (Nat.mul_le_mul_right _ (of_decide_eq_true m_4 : (l0.length : Int).toNat ≤ 70368744177664)) (by omega)) (Below.refl _ _) (Nat.le_refl _) ?_; intro v512 w5 ho6 hb hg_ hnew_; clear hg_ hnew_; (first | rw [← Ny511.out] at ho6 | (simp only [Int.reduceToNat] at ho6; rw [← Ny511.out] at ho6)); have HO513 := Aside0.mk (Kd.R_lower (Kd.R_newM (M := fun k_ => (w.heap.size ≤ k_)) ho6 (below_size m_1) (fun k_ h_ => h_)) (below_size m_1)); replace HB := Aside0.mk (below_step m_1 hb); clear hb ho6))
   go_loopg [5, 13] k (fun kq v5 v13 w' => ∃ (x4_1 : List Int) (x5_1 : Int) (x13_1 : Int), v5 = .int .u64 x5_1 ∧ v13 = .int .i64 x13_1 ∧ Aside0 (whole_small.l0 kq l0 a1 x4_1 x5_1 (l0.length : Int) x13_1 = some (r1, r2)) ∧ Aside0 (kq ≤ k) ∧ Aside0 (Kd.R (Kd.int .u32) 117 w' w.heap.size (fun k_ => (w.heap.size ≤ k_)) v512 x4_1) ∧ Aside0 (Below w.heap.size w w'))
   case atStart => exact ⟨(y511), (0), (0), m_9, m_9, H', ⟨Nat.le_refl _⟩, ⟨(by (with_reducible repeat (first | apply Kd.R_alloc | apply Kd.R_drewN | apply Kd.R_drew)); exact Kd.R_mono HO513.out (fun _ hk => hk.1))⟩, ⟨m_1⟩⟩
   case round =>
    clear H'
    (try clear c1); (try clear p2); (try clear c3); (try skip); (try clear c3b1); (try clear c4); (try skip); (try clear c4b1)
    obtain ⟨x4_1, x5_1, x13_1, rfl, rfl, HA, HK1, HO_4, HB⟩ := hrel
    cases gk with
    | zero => exact absurd HA.out (by simp [whole_small.l0])
    | succ k1 =>
     have H := HA.out
     clear HA
     simp only [whole_small.l0] at H
     by_cases c7 : x13_1 < (l0.length : Int)
     ·rw [if_pos c7] at H
      have c7b0 : decide (x13_1 < (l0.length : Int)) = true := decide_eq_true c7
      clear c7
      obtain ⟨ji8, hji8⟩ : ∃ j_ : Int, (wrap64 ((wrap64 ((l0.length : Int) - 1)) - x13_1)) = j_ := ⟨_, rfl⟩
      replace H : (if 0 ≤ (ji8) then (if (ji8) < (l0.length : Int) then (if a1 = 0 then (none) else (if (ji8) < (x4_1.length : Int) then (whole_small.l0 k1 l0 a1 (x4_1.set ((ji8) : Int).toNat ((IntKind.u64.wrap (Int.tdiv (IntKind.u64.wrap ((IntKind.u64.wrap (x5_1 * 4294967296)) + (IntKind.u64.wrap (rd l0 (ji8))))) a1)) % 4294967296)) (Int.tmod (IntKind.u64.wrap ((IntKind.u64.wrap (x5_1 * 4294967296)) + (IntKind.u64.wrap (rd l0 (ji8))))) a1) (l0.length : Int) (wrap64 (x13_1 + 1))) else (none))) else (none)) else (none)) = some (r1, r2) := by first | (rw [hji8] at H; exact H) | (simp only [hji8] at H ⊢; exact H)
      have hji8w : (IntKind.i64.wrap ((wrap64 ((l0.length : Int) - 1)) - x13_1)) = ji8 := (i64_w _).trans hji8
      by_cases c9 : 0 ≤ (ji8)
      ·rw [if_pos c9] at H
       have c9b0 : decide (0 ≤ (ji8)) = true := decide_eq_true c9
       clear c9
       by_cases c10 : (ji8) < (l0.length : Int)
       ·rw [if_pos c10] at H
        have c10b0 : decide ((ji8) < (l0.length : Int)) = true := decide_eq_true c10
        clear c10
        by_cases c11 : a1 = 0
        ·rw [if_pos c11] at H
         exact absurd H (by simp)
        ·rw [if_neg c11] at H
         by_cases c12 : (ji8) < (x4_1.length : Int)
         ·rw [if_pos c12] at H
          have c12b0 : decide ((ji8) < (x4_1.length : Int)) = true := decide_eq_true c12
          clear c12
          obtain ⟨y515, hy515⟩ : ∃ y_ : List Int, y_ = (x4_1.set ((ji8) : Int).toNat ((IntKind.u64.wrap (Int.tdiv (IntKind.u64.wrap ((IntKind.u64.wrap (x5_1 * 4294967296)) + (IntKind.u64.wrap (rd l0 (ji8))))) a1)) % 4294967296)) := ⟨_, rfl⟩
          replace H : (whole_small.l0 k1 l0 a1 y515 (Int.tmod (IntKind.u64.wrap ((IntKind.u64.wrap (x5_1 * 4294967296)) + (IntKind.u64.wrap (rd l0 (ji8))))) a1) (l0.length : Int) (wrap64 (x13_1 + 1))) = some (r1, r2) := by first | (rw [hy515]; with_reducible exact H) | (have H2_ := (Option.bind_some _ _).symm.trans H; rw [hy515]; with_reducible exact H2_) | (have H2_ := (Option.bind_some _ _).symm.trans H; with_reducible exact H2_) | with_reducible exact H | (rw [hy515]; exact H) | exact H
          have Ny515 := Aside0.mk hy515
          clear hy515
          have H' := Aside0.mk H
          clear H
          have p514 : 0 ≤ ((ji8) : Int) := of_decide_eq_true m_4
          have q514 : (ji8) < (l0.length : Int) := of_decide_eq_true m_4
          obtain ⟨ad514, e514, hx514_0⟩ := Kd.at_int HR0.out (ji8) p514 q514
          cases e514
          replace hx514_0 := mv_ HB hx514_0
          replace p514 := eq_true p514
          replace q514 := eq_true q514
          try go_wp2
          replace HO_4 := Aside0.mk (Kd.R_drew HO_4.out)
          replace HB := Aside0.mk (below_drew1 HB.out)
          have p13 : 0 ≤ ((ji8) : Int) := of_decide_eq_true m_4
          have q13 : ((ji8) : Int) < ((x4_1.length : Int) : Int) := of_decide_eq_true m_4
          obtain ⟨go13, co13, eo13, gb13, gl13, cl13, HG13⟩ := Kd.R_form HO_4.out (by omega)
          (first | cases eo13 | (injection eo13 with ea_ en_ ec_; (first | subst ea_ | (injection ea_ with ea_; subst ea_)); subst ec_; clear en_))
          have GB13 := Aside0.mk gb13
          clear gb13 gl13 HG13
          obtain ⟨hx13_0, hf13_0⟩ := Kd.R_celln 0 HO_4.out ((ji8) : Int) p13 q13
          replace q13 := eq_true q13
          have HP15 := Kd.R_putn HO_4.out ((ji8) : Int) ((IntKind.u64.wrap (Int.tdiv (IntKind.u64.wrap ((IntKind.u64.wrap (x5_1 * 4294967296)) + (IntKind.u64.wrap (rd l0 (ji8))))) a1)) % 4294967296)
          rw [← Ny515.out] at HP15
          have HQ15 := Aside0.mk HP15
          clear HP15
          refine start_ (n := 12) (S := fun w' => True) (ds := [10]) #[false, false, false, false, false, false, false, false, false, false, false, false] m_13 rfl rfl trivial (fun hHeld => ?_); refine with_tabW whole_small.tab7 whole_small.bits7 (fun HT_ HW_ => ?_)
          generalize wr.drew = w14 at HO_4 HB HQ15 hf13_0 hx13_0 hHeld ⊢
          refine pA_ 0 HT_.out ?_
          refine pA_ 1 HT_.out ?_
          refine pA_ 2 HT_.out ?_
          refine pA_ 3 HT_.out ?_
          refine pA_ 4 HT_.out ?_
          refine pA_ 5 HT_.out ?_
          refine pA_ 6 HT_.out ?_
          refine pA_ 7 HT_.out ?_
          refine pA_ 8 HT_.out ?_
          refine pA_ 9 HT_.out ?_
          refine last_ (i := 10) (N := none) #[true, true, true, true, true, true, true, true, true, true, true, false] rfl rfl (one_of HT_.out m_13) (by decide) (fun K hK => ?_)
          refine skip_ (w1 := ?_) (by rfl) rfl ?_ ?_
          rotate_left
          ·go_simp
           rfl
          refine hK.out _ _ ?_
          clear hK K
          refine pA_ 11 HT_.out ?_
          refine done_ (done_of HT_.out m_13) ?_
          try go_wp2
          go_roundg k1
          case measure => have := HK1.out; omega
          case rel => exact ⟨(y515), (Int.tmod (IntKind.u64.wrap ((IntKind.u64.wrap (x5_1 * 4294967296)) + (IntKind.u64.wrap (rd l0 (ji8))))) a1), (wrap64 (x13_1 + 1)), (by first | rfl | (simp; done) | (simp only [← hji8] <;> (first | rfl | simp)) | (simp [*]; done)), m_9, H', ⟨m_119⟩, ⟨(by (with_reducible repeat (first | apply Kd.R_alloc | apply Kd.R_drewN | apply Kd.R_drew)); exact HQ15.out)⟩, ⟨(by repeat (first | (with_reducible first | exact HB.out | apply below_alloc | apply pw_below_drewN | apply below_drew1 | refine below_set ?_ GB13.out) | exact HB.out))⟩⟩
         ·rw [if_neg c12] at H
          exact absurd H (by simp)
       ·rw [if_neg c10] at H
        exact absurd H (by simp)
      ·rw [if_neg c9] at H
       exact absurd H (by simp)
     ·rw [if_neg c7] at H
      have c7b0 : decide (x13_1 < (l0.length : Int)) = false := decide_eq_false c7
      clear c7
      replace H := Option.bind_eq_some_iff.mp H
      obtain ⟨t516, A160, H⟩ := H
      replace H : (some (t516, x5_1)) = some (r1, r2) := H
      have A16 := Aside0.mk A160
      clear A160
      simp only [Option.some.injEq, Prod.mk.injEq] at H
      obtain ⟨rfl, rfl⟩ := H
      obtain ⟨Ao17, co17, eo17⟩ := Kd.R_slice HO_4.out
      subst eo17
      go_wp2_with (first | ((with_reducible refine gate_callee (f := 88) rfl ?_); refine goesL_ (some 41) rfl rfl Try.func88 m_13 rfl #[.slice Ao17 x4_1.length co17] rfl m_2 ?_; (with_reducible refine (whole_trim.calls k1 (fun k_ => some k_ = (.slice Ao17 x4_1.length co17 : Value).ownBlock) _ _ x4_1 t516 _ ?side1 A16.out).mono ?_); (case side1 => exact Kd.R_V (Kd.R_tight rfl (HO_4.out))); rintro e w18 ⟨v517, rfl, ho0, hb⟩; refine ⟨_, rfl, ?_⟩; have HO518 := Aside0.mk (Kd.V_lower (Kd.V_mono (ok' := fun k_ => (w.heap.size ≤ k_)) ho0 (fun k_ hk_ => Or.elim hk_ (fun hs_ => ((HO_4.out).1 k_ hs_.symm)) (fun hn_ => (Nat.le_trans (below_size m_1) hn_)))) (below_size m_1)); replace HB := Aside0.mk (below_step m_1 hb); clear hb; (try clear ho0)))
      go_ret2
      exact ⟨_, m_5, (by (with_reducible repeat (first | apply Kd.V_alloc | apply Kd.V_drewN | apply Kd.V_drew)); exact HO518.out), m_1⟩
  ·rw [if_neg c4] at H
   exact absurd H (by simp)
 ·rw [if_neg c3] at H
  exact absurd H (by simp)
end Go.Proofs.Ytelklgdmhnkenaa.U
namespace Go.Proofs.Ytelklgdmhnkenaa.U
attribute [local go_sem] max2_int min2_int max_two min_two max_three min_three max_four min_four
def whole_div.f (k : Nat) (l0 : List Int) (l1 : List Int) : Option (List Int × List Int) := if (l1.length : Int) = 1 then (if 0 < (l1.length : Int) then ((whole_small.f k l0 (IntKind.u64.wrap (rd l1 0))).bind fun bt520 => ((whole_trim.f k (([(bt520.2) % 4294967296] : List Int))).bind fun t527 => (some (bt520.1, t527)))) else (none)) else (none)
set_option maxHeartbeats 8000000 in
set_option maxRecDepth 100000 in
theorem whole_div.calls (k : Nat) (A0 : Option Addr) (c0 : Nat) (l0 : List Int) (A1 : Option Addr) (c1 : Nat) (l1 : List Int) (r1 : List Int) (r2 : List Int) (w : World) (hr0 : Kd.C (Kd.int .u32) w A0 l0.length l0) (hc0 : l0.length ≤ c0) (hr1 : Kd.C (Kd.int .u32) w A1 l1.length l1) (hc1 : l1.length ≤ c1) (h : whole_div.f k l0 l1 = some (r1, r2)) :
  Calls Try.prog 134 #[.slice A0 l0.length c0, .slice A1 l1.length c1] w fun e w' => ∃ v0_ v1_ : Value, e = .returned (.tuple #[v0_, v1_]) ∧ Kd.V (Kd.int .u32) 117 w' w.heap.size (fun k_ => (w.heap.size ≤ k_)) v0_ r1 ∧ Kd.V (Kd.int .u32) 117 w' w.heap.size (fun k_ => (w.heap.size ≤ k_)) v1_ r2 ∧ Below w.heap.size w w' := by
 have HR0 := Aside0.mk hr0
 have HC0 := Aside0.mk hc0
 clear hr0 hc0
 have HR1 := Aside0.mk hr1
 clear hr1 hc1
 have HB := Aside0.mk (Below.refl w.heap.size w)
 have H : (if (l1.length : Int) = 1 then (if 0 < (l1.length : Int) then ((whole_small.f k l0 (IntKind.u64.wrap (rd l1 0))).bind fun bt520 => ((whole_trim.f k (([(bt520.2) % 4294967296] : List Int))).bind fun t527 => (some (bt520.1, t527)))) else (none)) else (none)) = some (r1, r2) := h
 clear h
 by_cases c3 : (l1.length : Int) = 1
 ·rw [if_pos c3] at H
  have c3b0 : ((l1.length : Int) == 1) = true := beq_iff_eq.mpr c3
  clear c3
  by_cases c4 : 0 < (l1.length : Int)
  ·rw [if_pos c4] at H
   have c4b0 : decide (0 < (l1.length : Int)) = true := decide_eq_true c4
   clear c4
   replace H := Option.bind_eq_some_iff.mp H
   obtain ⟨⟨t520, t523⟩, A50, H⟩ := H
   replace H : ((whole_trim.f k (([(t523) % 4294967296] : List Int))).bind fun t527 => (some (t520, t527))) = some (r1, r2) := H
   have A5 := Aside0.mk A50
   clear A50
   obtain ⟨y524, hy524⟩ : ∃ y_ : List Int, y_ = (([(t523) % 4294967296] : List Int)) := ⟨_, rfl⟩
   replace H : ((whole_trim.f k y524).bind fun t527 => (some (t520, t527))) = some (r1, r2) := by first | (rw [hy524]; with_reducible exact H) | (have H2_ := (Option.bind_some _ _).symm.trans H; rw [hy524]; with_reducible exact H2_) | (have H2_ := (Option.bind_some _ _).symm.trans H; with_reducible exact H2_) | with_reducible exact H | (rw [hy524]; exact H) | exact H
   have Ny524 := Aside0.mk hy524
   clear hy524
   replace H := Option.bind_eq_some_iff.mp H
   obtain ⟨t527, A60, H⟩ := H
   replace H : (some (t520, t527)) = some (r1, r2) := H
   have A6 := Aside0.mk A60
   clear A60
   simp only [Option.some.injEq, Prod.mk.injEq] at H
   obtain ⟨rfl, rfl⟩ := H
   have p519 : 0 ≤ (0 : Int) := (by omega)
   have q519 : 0 < (l1.length : Int) := of_decide_eq_true m_4
   obtain ⟨ad519, e519, hx519_0⟩ := Kd.at_int HR1.out 0 p519 q519
   cases e519
   have qi519 : (0 < l1.length) = True := eq_true (by omega)
   (try rw [show ((0 : Int)).toNat = 0 from rfl] at hx519_0)
   (try rw [Addr.add_zero'] at hx519_0)
   go_enter Try.func134, Try.ntmps134
   go_wp2_with (first | ((with_reducible refine gate_callee (f := 138) rfl ?_); refine goesL_ (some 22) rfl rfl Try.func138 m_13 rfl #[.slice A0 l0.length c0, .int .u64 (IntKind.u64.wrap (rd l1 0))] rfl m_2 ?_; (with_reducible refine (whole_small.calls k _ _ l0 (IntKind.u64.wrap (rd l1 0)) t520 t523 _ ?side1 ?side2 A5.out).mono ?_); (case side1 => exact cA_ HR0.out); (case side2 => exact HC0.out); rintro e w7 ⟨v521, rfl, ho0, hb⟩; refine ⟨_, rfl, ?_⟩; have HO522 := Aside0.mk (Kd.V_lower (Kd.V_mono (ok' := fun k_ => (w.heap.size ≤ k_)) ho0 (fun k_ hk_ => (Nat.le_trans (below_size m_1) hk_))) (below_size m_1)); replace HB := Aside0.mk (below_step m_1 hb); clear hb; (try clear ho0)) | ((with_reducible refine gate_dst (N := 28) rfl ?_); refine Kd.R_lit (Kd.int .u32) _ 117 ?hg (N := 28) ?hd (xs := ([(t523) % 4294967296] : List Int)) (inner := [.int .u32 ((t523) % 4294967296)]) (ok := fun _ => True) (okp := fun _ => True) ?hr ?hp (fun _ hk => hk) trivial (Below.refl _ _) (Nat.le_refl _) (by simp) ?_; (case hd => rfl); (case hg => rfl); (case hr => exact hr_); (case hp => exact (Reps.one (show Kd.M (Kd.int .u32) _ _ _ ((t523) % 4294967296) [.int .u32 ((t523) % 4294967296)] from rfl) (Reps.none _ _))); intro v525 w8 ho9 hb hg_ hnew_; clear hg_ hnew_; (first | rw [← Ny524.out] at ho9 | (simp only [Int.reduceToNat] at ho9; rw [← Ny524.out] at ho9)); have HO526 := Aside0.mk (Kd.R_lower (Kd.R_newM (M := fun k_ => (w.heap.size ≤ k_)) ho9 (below_size m_1) (fun k_ h_ => h_)) (below_size m_1)); replace HO522 := Aside0.mk (Kd.V_elder' (vA_ HO522.out) (Kd.R_base ho9) hb); replace HB := Aside0.mk (below_step m_1 hb); clear hb ho9; obtain ⟨Ao10, co10, eo10⟩ := Kd.R_slice HO526.out; subst eo10) | ((with_reducible refine gate_callee (f := 88) rfl ?_); refine goesL_ (some 29) rfl rfl Try.func88 m_13 rfl #[.slice Ao10 y524.length co10] rfl m_2 ?_; (with_reducible refine (whole_trim.calls k (fun k_ => some k_ = (.slice Ao10 y524.length co10 : Value).ownBlock) _ _ y524 t527 _ ?side1 A6.out).mono ?_); (case side1 => exact Kd.R_V (Kd.R_tight rfl (HO526.out))); rintro e w11 ⟨v528, rfl, ho0, hb⟩; refine ⟨_, rfl, ?_⟩; have HO529 := Aside0.mk (Kd.V_lower (Kd.V_mono (ok' := fun k_ => (w.heap.size ≤ k_)) ho0 (fun k_ hk_ => Or.elim hk_ (fun hs_ => ((HO526.out).1 k_ hs_.symm).1) (fun hn_ => (Nat.le_trans (below_size m_1) hn_)))) (below_size m_1)); replace HO522 := vB_ HO522 hb; replace HB := Aside0.mk (below_step m_1 hb); clear hb; (try clear ho0)))
   go_ret2
   exact ⟨_, _, m_5, (by (with_reducible repeat (first | apply Kd.V_alloc | apply Kd.V_drewN | apply Kd.V_drew)); exact Kd.V_mono HO522.out (fun _ hk => hk.1)), (by (with_reducible repeat (first | apply Kd.V_alloc | apply Kd.V_drewN | apply Kd.V_drew)); exact HO529.out), m_1⟩
  ·rw [if_neg c4] at H
   exact absurd H (by simp)
 ·rw [if_neg c3] at H
  cases H
end Go.Proofs.Ytelklgdmhnkenaa.U
namespace Go.Proofs.Ytelklgdmhnkenaa.U
attribute [local go_sem] max2_int min2_int max_two min_two max_three min_three max_four min_four
def whole_GCD.l0 : Nat → List Int → List Int → Option (Bool × List Int)
 | 0, _, _ => none
 | k + 1, x5, x6 => if (x6.length : Int) > 0 then ((whole_div.f k x5 x6).bind fun bt581 => (whole_GCD.l0 k x6 bt581.2)) else ((slices_Clone_uint32_uint32.f x5).bind fun t587 => ((whole_made.f k false t587).bind fun bt590 => (some (bt590.1, bt590.2))))
def whole_GCD.f (k : Nat) (a0_0 : Bool) (l0_1 : List Int) (a1_0 : Bool) (l1_1 : List Int) : Option (Bool × List Int) := (whole_trim.f k l0_1).bind fun t575 => ((whole_trim.f k l1_1).bind fun t578 => (whole_GCD.l0 k t575 t578))
def whole_GCD.T1 : Bool × List (List Nat × List Nat) := (true, [([], []), ([0], [0]), ([1], [1]), ([], []), ([3], [3]), ([4, 2], [4]), ([2, 5, 0, 1, 2], [2]), ([5, 6, 0, 1, 2, 3, 4, 5, 6], [5])])
def whole_GCD.B1 : List Nat := [0, 1, 3, 0, 8, 31, 63, 127]
theorem whole_GCD.tab1 : rtab .any (opsOf Try.f123 1) = whole_GCD.T1 := by kernel_rfl
theorem whole_GCD.bits1 : waitsOk whole_GCD.T1.2 whole_GCD.B1 = true := by kernel_rfl
set_option maxHeartbeats 8000000 in
set_option maxRecDepth 100000 in
theorem whole_GCD.calls (k : Nat) (a0_0 : Bool) (P0_1_ : Nat → Prop) (A0_1 : Option Addr) (c0_1 : Nat) (l0_1 : List Int) (a1_0 : Bool) (P1_1_ : Nat → Prop) (A1_1 : Option Addr) (c1_1 : Nat) (l1_1 : List Int) (r1 : Bool) (r2 : List Int) (w : World) (hs0_1 : Kd.V (Kd.int .u32) 117 w w.heap.size (fun k_ => P0_1_ k_) (.slice A0_1 l0_1.length c0_1) l0_1) (hs1_1 : Kd.V (Kd.int .u32) 117 w w.heap.size (fun k_ => P1_1_ k_) (.slice A1_1 l1_1.length c1_1) l1_1) (h : whole_GCD.f k a0_0 l0_1 a1_0 l1_1 = some (r1, r2)) :
  Calls Try.prog 123 #[.agg #[.bool a0_0, .slice A0_1 l0_1.length c0_1], .agg #[.bool a1_0, .slice A1_1 l1_1.length c1_1]] w fun e w' => ∃ v1_ : Value, e = .returned (.agg #[.bool r1, v1_]) ∧ Kd.V (Kd.int .u32) 117 w' w.heap.size (fun k_ => ((P0_1_ k_ ∨ P1_1_ k_) ∨ w.heap.size ≤ k_)) v1_ r2 ∧ Below w.heap.size w w' := by
 have HO0_1 := Aside0.mk (show Kd.V (Kd.int .u32) 117 w w.heap.size (fun k_ => ((P0_1_ k_ ∨ P1_1_ k_) ∨ w.heap.size ≤ k_)) (.slice A0_1 l0_1.length c0_1) l0_1 from Kd.V_mono hs0_1 (fun k_ hk => .inl (.inl hk)))
 have HO1_1 := Aside0.mk (show Kd.V (Kd.int .u32) 117 w w.heap.size (fun k_ => ((P0_1_ k_ ∨ P1_1_ k_) ∨ w.heap.size ≤ k_)) (.slice A1_1 l1_1.length c1_1) l1_1 from Kd.V_mono hs1_1 (fun k_ hk => .inl (.inr hk)))
 have HB := Aside0.mk (Below.refl w.heap.size w)
 have H : ((whole_trim.f k l0_1).bind fun t575 => ((whole_trim.f k l1_1).bind fun t578 => (whole_GCD.l0 k t575 t578))) = some (r1, r2) := h
 clear h
 replace H := Option.bind_eq_some_iff.mp H
 obtain ⟨t575, A30, H⟩ := H
 replace H : ((whole_trim.f k l1_1).bind fun t578 => (whole_GCD.l0 k t575 t578)) = some (r1, r2) := H
 have A3 := Aside0.mk A30
 clear A30
 replace H := Option.bind_eq_some_iff.mp H
 obtain ⟨t578, A40, H⟩ := H
 replace H : (whole_GCD.l0 k t575 t578) = some (r1, r2) := H
 have A4 := Aside0.mk A40
 clear A40
 have H' := Aside0.mk H
 clear H
 go_enter Try.func123, Try.ntmps123
 try go_wp2_with (first | ((with_reducible refine gate_dst (N := 2) rfl ?_); refine box_event ?hg (N := 2) ?hd (cs := #[.bool a0_0, .slice A0_1 l0_1.length c0_1]) (t := 64) ?hr ?_; (case hd => rfl); (case hg => rfl); (case hr => exact hr_); intro gb572 hg w5 hbox hb; have BK572 := Aside0.mk (hbox); replace HO0_1 := vE_ HO0_1 hg hb; replace HO1_1 := vE_ HO1_1 hg hb; replace HB := Aside0.mk (below_step m_1 hb); clear hb hbox hg) | ((with_reducible refine gate_dst (N := 3) rfl ?_); refine box_event ?hg (N := 3) ?hd (cs := #[.bool a1_0, .slice A1_1 l1_1.length c1_1]) (t := 64) ?hr ?_; (case hd => rfl); (case hg => rfl); (case hr => exact hr_); intro gb573 hg w6 hbox hb; have BK573 := Aside0.mk (hbox); replace HO0_1 := vE_ HO0_1 hg hb; replace HO1_1 := vE_ HO1_1 hg hb; replace BK572 := bB_ BK572 hb; replace HB := Aside0.mk (below_step m_102 hb); clear hb hbox hg) | ((with_reducible refine gate_dst (N := 4) rfl ?_); refine box_event ?hg (N := 4) ?hd (cs := #[.bool false, .slice none 0 0]) (t := 64) ?hr ?_; (case hd => rfl); (case hg => rfl); (case hr => exact hr_); intro gb574 hg w7 hbox hb; have BK574 := Aside0.mk (hbox); have GE574 := gW_ (w := w) hg m_84; replace HO0_1 := vE_ HO0_1 hg hb; replace HO1_1 := vE_ HO1_1 hg hb; replace BK572 := bB_ BK572 hb; replace BK573 := bB_ BK573 hb; replace HB := Aside0.mk (below_step m_84 hb); clear hb hbox hg))
 replace HO0_1 := vD_ HO0_1
 replace HO1_1 := vD_ HO1_1
 replace BK572 := bD_ BK572
 replace BK573 := bD_ BK573
 replace BK574 := bD_ BK574
 replace HB := Aside0.mk (below_drew1 HB.out)
 refine start_ (n := 8) (S := fun w' => w'.cell? ⟨gb572, 0, none⟩ = some (.bool a0_0) ∧ w'.cell? ⟨gb572, 1, none⟩ = some (.slice A0_1 l0_1.length c0_1) ∧ w'.cell? ⟨gb573, 0, none⟩ = some (.bool a1_0) ∧ w'.cell? ⟨gb573, 1, none⟩ = some (.slice A1_1 l1_1.length c1_1)) (ds := []) #[false, false, false, false, false, false, false, false] m_13 rfl rfl ⟨(blk_cell BK572.out 0).trans rfl, (blk_cell BK572.out 1).trans rfl, (blk_cell BK573.out 0).trans rfl, (blk_cell BK573.out 1).trans rfl⟩ (fun hHeld => ?_); refine with_tabW whole_GCD.tab1 whole_GCD.bits1 (fun HT_ HW_ => ?_)
 generalize w7.drew = w8 at HO0_1 HO1_1 BK572 BK573 BK574 HB hHeld ⊢
 refine pA_ 0 HT_.out ?_
 refine pA_ 3 HT_.out ?_
 refine tA_ 1 HT_.out HW_.out hHeld ?_
 refine tA_ 4 HT_.out HW_.out hHeld ?_
 refine cB_1 2 Try.func88 (args := #[.slice A0_1 l0_1.length c0_1]) ?_
 with_reducible refine (whole_trim.calls k (fun k_ => (((((P0_1_ k_ ∨ P1_1_ k_) ∨ w.heap.size ≤ k_) ∧ k_ ≠ gb572) ∧ k_ ≠ gb573) ∧ k_ ≠ gb574)) _ _ l0_1 t575 _ ?side1 A3.out).mono ?_
 (case side1 => exact HO0_1.out)
 rintro e w9 ⟨v576, rfl, ho0, hb⟩
 refine ⟨_, rfl, ?_⟩
 have HO577 := Aside0.mk (Kd.V_lower (Kd.V_mono (ok' := fun k_ => ((P0_1_ k_ ∨ P1_1_ k_) ∨ w.heap.size ≤ k_) ∧ k_ ≠ gb572 ∧ k_ ≠ gb573 ∧ k_ ≠ gb574) ho0 (fun k_ hk_ => ⟨Or.elim hk_ (fun hs_ => hs_.1.1.1) (fun hn_ => (.inr (Nat.le_trans (below_size m_10) hn_))), Or.elim hk_ (fun hs_ => hs_.1.1.2) (fun hn_ => (Kd.freshB (bA_ BK572.out) k_ hn_)), Or.elim hk_ (fun hs_ => hs_.1.2) (fun hn_ => (Kd.freshB (bA_ BK573.out) k_ hn_)), Or.elim hk_ (fun hs_ => hs_.2) (fun hn_ => (Kd.freshB (bA_ BK574.out) k_ hn_))⟩)) (below_size m_10))
 replace HO0_1 := vB_ HO0_1 hb
 replace HO1_1 := vB_ HO1_1 hb
 replace BK572 := bB_ BK572 hb
 replace BK573 := bB_ BK573 hb
 replace BK574 := bB_ BK574 hb
 replace HB := Aside0.mk (below_step m_10 hb)
 (try clear hb); (try clear hb2); (try clear hk); (try clear hi); (try clear ho0)
 refine nx_ ⟨(blk_cell BK572.out 0).trans rfl, (blk_cell BK572.out 1).trans rfl, (blk_cell BK573.out 0).trans rfl, (blk_cell BK573.out 1).trans rfl⟩ (fun hHeld => ?_)
 refine cB_1 5 Try.func88 (args := #[.slice A1_1 l1_1.length c1_1]) ?_
 with_reducible refine (whole_trim.calls k (fun k_ => (((((P0_1_ k_ ∨ P1_1_ k_) ∨ w.heap.size ≤ k_) ∧ k_ ≠ gb572) ∧ k_ ≠ gb573) ∧ k_ ≠ gb574)) _ _ l1_1 t578 _ ?side1 A4.out).mono ?_
 (case side1 => exact HO1_1.out)
 rintro e w10 ⟨v579, rfl, ho0, hb⟩
 refine ⟨_, rfl, ?_⟩
 have HO580 := Aside0.mk (Kd.V_lower (Kd.V_mono (ok' := fun k_ => ((P0_1_ k_ ∨ P1_1_ k_) ∨ w.heap.size ≤ k_) ∧ k_ ≠ gb572 ∧ k_ ≠ gb573 ∧ k_ ≠ gb574) ho0 (fun k_ hk_ => ⟨Or.elim hk_ (fun hs_ => hs_.1.1.1) (fun hn_ => (.inr (Nat.le_trans (below_size m_10) hn_))), Or.elim hk_ (fun hs_ => hs_.1.1.2) (fun hn_ => (Kd.freshB (bA_ BK572.out) k_ hn_)), Or.elim hk_ (fun hs_ => hs_.1.2) (fun hn_ => (Kd.freshB (bA_ BK573.out) k_ hn_)), Or.elim hk_ (fun hs_ => hs_.2) (fun hn_ => (Kd.freshB (bA_ BK574.out) k_ hn_))⟩)) (below_size m_10))
 replace HO0_1 := vB_ HO0_1 hb
 replace HO1_1 := vB_ HO1_1 hb
 replace HO577 := vB_ HO577 hb
 replace BK572 := bB_ BK572 hb
 replace BK573 := bB_ BK573 hb
 replace BK574 := bB_ BK574 hb
 replace HB := Aside0.mk (below_step m_10 hb)
 (try clear hb); (try clear hb2); (try clear hk); (try clear hi); (try clear ho0)
 refine nx_ ⟨(blk_cell BK572.out 0).trans rfl, (blk_cell BK572.out 1).trans rfl, (blk_cell BK573.out 0).trans rfl, (blk_cell BK573.out 1).trans rfl⟩ (fun hHeld => ?_)
 refine pA_ 6 HT_.out ?_
 refine pA_ 7 HT_.out ?_
 refine done_ (done_of HT_.out m_13) ?_
 try go_wp2
 go_loopg [5, 6] k (fun kq v5 v6 w' => ∃ (x5_1 : List Int) (x6_1 : List Int), Aside0 (whole_GCD.l0 kq x5_1 x6_1 = some (r1, r2)) ∧ Aside0 (kq ≤ k) ∧ Aside0 (Kd.V (Kd.int .u32) 117 w' w.heap.size (fun k_ => ((P0_1_ k_ ∨ P1_1_ k_) ∨ w.heap.size ≤ k_) ∧ k_ ≠ gb572 ∧ k_ ≠ gb573 ∧ k_ ≠ gb574) v5 x5_1) ∧ Aside0 (Kd.V (Kd.int .u32) 117 w' w.heap.size (fun k_ => ((P0_1_ k_ ∨ P1_1_ k_) ∨ w.heap.size ≤ k_) ∧ k_ ≠ gb572 ∧ k_ ≠ gb573 ∧ k_ ≠ gb574) v6 x6_1) ∧ Aside0 (Kd.V (Kd.int .u32) 117 w' w.heap.size (fun k_ => ((P0_1_ k_ ∨ P1_1_ k_) ∨ w.heap.size ≤ k_) ∧ k_ ≠ gb572 ∧ k_ ≠ gb573 ∧ k_ ≠ gb574) (.slice A0_1 l0_1.length c0_1) l0_1) ∧ Aside0 (Kd.V (Kd.int .u32) 117 w' w.heap.size (fun k_ => ((P0_1_ k_ ∨ P1_1_ k_) ∨ w.heap.size ≤ k_) ∧ k_ ≠ gb572 ∧ k_ ≠ gb573 ∧ k_ ≠ gb574) (.slice A1_1 l1_1.length c1_1) l1_1) ∧ Aside0 (w'.heap[gb572]? = some (.cells #[.bool a0_0, (.slice A0_1 l0_1.length c0_1)] 64 (0, 0))) ∧ Aside0 (w'.heap[gb573]? = some (.cells #[.bool a1_0, (.slice A1_1 l1_1.length c1_1)] 64 (0, 0))) ∧ Aside0 (w'.heap[gb574]? = some (.cells #[.bool false, (.slice none 0 0)] 64 (0, 0))) ∧ Aside0 (Below w.heap.size w w'))
 case atStart => exact ⟨(t575), (t578), H', ⟨Nat.le_refl _⟩, ⟨(by (with_reducible repeat (first | apply Kd.V_alloc | apply Kd.V_drewN | apply Kd.V_drew)); exact HO577.out)⟩, ⟨(by (with_reducible repeat (first | apply Kd.V_alloc | apply Kd.V_drewN | apply Kd.V_drew)); exact HO580.out)⟩, ⟨(by (with_reducible repeat (first | apply Kd.V_alloc | apply Kd.V_drewN | apply Kd.V_drew)); exact Kd.V_mono HO0_1.out (fun _ hk => ⟨hk.1.1.1, ⟨hk.1.1.2, ⟨hk.1.2, hk.2⟩⟩⟩))⟩, ⟨(by (with_reducible repeat (first | apply Kd.V_alloc | apply Kd.V_drewN | apply Kd.V_drew)); exact Kd.V_mono HO1_1.out (fun _ hk => ⟨hk.1.1.1, ⟨hk.1.1.2, ⟨hk.1.2, hk.2⟩⟩⟩))⟩, ⟨m_154⟩, ⟨m_153⟩, ⟨m_152⟩, ⟨m_10⟩⟩
 case round =>
  clear H'
  (try clear c1); (try clear p2); (try clear c8)
  obtain ⟨x5_1, x6_1, HA, HK1, HO_5, HO_6, HO_573001, HO_574001, BK572, BK573, BK574, HB⟩ := hrel
  cases gk with
  | zero => exact absurd HA.out (by simp [whole_GCD.l0])
  | succ k1 =>
   have H := HA.out
   clear HA
   simp only [whole_GCD.l0] at H
   by_cases c11 : (x6_1.length : Int) > 0
   ·rw [if_pos c11] at H
    have c11b1 : decide (0 < x6_1.length) = true := decide_eq_true (by omega)
    clear c11
    replace H := Option.bind_eq_some_iff.mp H
    obtain ⟨⟨t581, t584⟩, A120, H⟩ := H
    replace H : (whole_GCD.l0 k1 x6_1 t584) = some (r1, r2) := H
    have A12 := Aside0.mk A120
    clear A120
    have H' := Aside0.mk H
    clear H
    obtain ⟨Ao13, co13, eo13⟩ := Kd.V_slice HO_6.out
    subst eo13
    obtain ⟨Ao14, co14, eo14⟩ := Kd.V_slice HO_5.out
    subst eo14
    go_wp2_with (first | ((with_reducible refine gate_callee (f := 134) rfl ?_); refine goesL_ (some 21) rfl rfl Try.func134 m_13 rfl #[.slice Ao14 x5_1.length co14, .slice Ao13 x6_1.length co13] rfl m_2 ?_; (with_reducible refine (whole_div.calls k1 _ _ x5_1 _ _ x6_1 t581 t584 _ ?side1 ?side2 ?side3 ?side4 A12.out).mono ?_); (case side1 => exact cA_ (Kd.V_reads' HO_5.out).2.2); (case side2 => exact (Kd.V_reads' HO_5.out).2.1); (case side3 => exact cA_ (Kd.V_reads' HO_6.out).2.2); (case side4 => exact (Kd.V_reads' HO_6.out).2.1); rintro e w15 ⟨v582, v585, rfl, ho0, ho1, hb⟩; refine ⟨_, rfl, ?_⟩; have HO586 := Aside0.mk (Kd.V_lower (Kd.V_mono (ok' := fun k_ => ((P0_1_ k_ ∨ P1_1_ k_) ∨ w.heap.size ≤ k_) ∧ k_ ≠ gb572 ∧ k_ ≠ gb573 ∧ k_ ≠ gb574) ho1 (fun k_ hk_ => ⟨(.inr (Nat.le_trans (below_size m_10) hk_)), (Kd.freshB (bA_ BK572.out) k_ hk_), (Kd.freshB (bA_ BK573.out) k_ hk_), (Kd.freshB (bA_ BK574.out) k_ hk_)⟩)) (below_size m_10)); replace HO_6 := vB_ HO_6 hb; replace HO_573001 := vB_ HO_573001 hb; replace HO_574001 := vB_ HO_574001 hb; replace BK572 := bB_ BK572 hb; replace BK573 := bB_ BK573 hb; replace BK574 := bB_ BK574 hb; replace HB := Aside0.mk (below_step m_10 hb); clear hb; (try clear ho0); (try clear ho1)))
    go_roundg k1
    case measure => have := HK1.out; omega
    case rel => exact ⟨(x6_1), (t584), H', ⟨m_119⟩, ⟨(by (with_reducible repeat (first | apply Kd.V_alloc | apply Kd.V_drewN | apply Kd.V_drew)); exact HO_6.out)⟩, ⟨(by (with_reducible repeat (first | apply Kd.V_alloc | apply Kd.V_drewN | apply Kd.V_drew)); exact HO586.out)⟩, ⟨(by (with_reducible repeat (first | apply Kd.V_alloc | apply Kd.V_drewN | apply Kd.V_drew)); exact HO_573001.out)⟩, ⟨(by (with_reducible repeat (first | apply Kd.V_alloc | apply Kd.V_drewN | apply Kd.V_drew)); exact HO_574001.out)⟩, ⟨m_154⟩, ⟨m_153⟩, ⟨m_152⟩, ⟨m_10⟩⟩
   ·rw [if_neg c11] at H
    have c11b1 : decide (0 < x6_1.length) = false := decide_eq_false (by omega)
    clear c11
    replace H := Option.bind_eq_some_iff.mp H
    obtain ⟨t587, A160, H⟩ := H
    replace H : ((whole_made.f k1 false t587).bind fun bt590 => (some (bt590.1, bt590.2))) = some (r1, r2) := H
    have A16 := Aside0.mk A160
    clear A160
    replace H := Option.bind_eq_some_iff.mp H
    obtain ⟨⟨t590, t591⟩, A170, H⟩ := H
    replace H : (some (t590, t591)) = some (r1, r2) := H
    have A17 := Aside0.mk A170
    clear A170
    simp only [Option.some.injEq, Prod.mk.injEq] at H
    obtain ⟨rfl, rfl⟩ := H
    obtain ⟨Ao18, co18, eo18⟩ := Kd.V_slice HO_6.out
    subst eo18
    obtain ⟨Ao19, co19, eo19⟩ := Kd.V_slice HO_5.out
    subst eo19
    go_wp2_with (first | ((with_reducible refine gate_callee (f := 125) rfl ?_); refine goesL_ (some 27) rfl rfl Try.func125 m_13 rfl #[.slice Ao19 x5_1.length co19] rfl m_2 ?_; (with_reducible refine (slices_Clone_uint32_uint32.calls _ _ x5_1 t587 _ ?side1 ?side2 A16.out).mono ?_); (case side1 => exact cA_ (Kd.V_reads' HO_5.out).2.2); (case side2 => exact (Kd.V_reads' HO_5.out).2.1); rintro e w20 ⟨v588, rfl, ho0, hb⟩; refine ⟨_, rfl, ?_⟩; have HO589 := Aside0.mk (Kd.R_lower (Kd.R_newM (M := fun k_ => (w.heap.size ≤ k_)) ho0 (below_size m_10) (fun k_ h_ => h_)) (below_size m_10)); replace HO_5 := Aside0.mk (Kd.V_elder' (vA_ HO_5.out) (Kd.R_base ho0) hb); replace HO_6 := Aside0.mk (Kd.V_elder' (vA_ HO_6.out) (Kd.R_base ho0) hb); replace HO_573001 := Aside0.mk (Kd.V_elder' (vA_ HO_573001.out) (Kd.R_base ho0) hb); replace HO_574001 := Aside0.mk (Kd.V_elder' (vA_ HO_574001.out) (Kd.R_base ho0) hb); replace BK572 := bB_ BK572 hb; replace BK573 := bB_ BK573 hb; replace BK574 := bB_ BK574 hb; replace HB := Aside0.mk (below_step m_10 hb); clear hb; (try clear ho0); obtain ⟨Ao21, co21, eo21⟩ := Kd.R_slice HO589.out; subst eo21) | ((with_reducible refine gate_callee (f := 81) rfl ?_); refine goesL_ (some 28) rfl rfl Try.func81 m_13 rfl #[.bool false, .slice Ao21 t587.length co21] rfl m_2 ?_; (with_reducible refine (whole_made.calls k1 false (fun k_ => some k_ = (.slice Ao21 t587.length co21 : Value).ownBlock) _ _ t587 t590 t591 _ ?side1 A17.out).mono ?_); (case side1 => exact Kd.R_V (Kd.R_tight rfl (Kd.R_types (Kd.R_types (Kd.R_types (HO589.out) BK572.out (by decide)) BK573.out (by decide)) BK574.out (by decide)))); rintro e w22 ⟨v592, rfl, ho0, hb⟩; refine ⟨_, rfl, ?_⟩; have HO593 := Aside0.mk (Kd.V_lower (Kd.V_mono (ok' := fun k_ => ((P0_1_ k_ ∨ P1_1_ k_) ∨ w.heap.size ≤ k_) ∧ k_ ≠ gb572 ∧ k_ ≠ gb573 ∧ k_ ≠ gb574) ho0 (fun k_ hk_ => ⟨Or.elim hk_ (fun hs_ => (.inr (((Kd.R_types (Kd.R_types (Kd.R_types (HO589.out) BK572.out (by decide)) BK573.out (by decide)) BK574.out (by decide)).1 k_ hs_.symm).1.1.1.1))) (fun hn_ => (.inr (Nat.le_trans (below_size m_10) hn_))), Or.elim hk_ (fun hs_ => ((Kd.R_types (Kd.R_types (Kd.R_types (HO589.out) BK572.out (by decide)) BK573.out (by decide)) BK574.out (by decide)).1 k_ hs_.symm).1.1.2) (fun hn_ => (Kd.freshB (bA_ BK572.out) k_ hn_)), Or.elim hk_ (fun hs_ => ((Kd.R_types (Kd.R_types (Kd.R_types (HO589.out) BK572.out (by decide)) BK573.out (by decide)) BK574.out (by decide)).1 k_ hs_.symm).1.2) (fun hn_ => (Kd.freshB (bA_ BK573.out) k_ hn_)), Or.elim hk_ (fun hs_ => ((Kd.R_types (Kd.R_types (Kd.R_types (HO589.out) BK572.out (by decide)) BK573.out (by decide)) BK574.out (by decide)).1 k_ hs_.symm).2) (fun hn_ => (Kd.freshB (bA_ BK574.out) k_ hn_))⟩)) (below_size m_10)); replace BK574 := bB_ BK574 hb; replace HB := Aside0.mk (below_step m_10 hb); clear hb; (try clear ho0); obtain ⟨hcz25_0, hcz25_1, hfz25_0, hfz25_1⟩ := cf2_ BK574; obtain ⟨Ao26, co26, eo26⟩ := Kd.V_slice HO593.out; subst eo26))
    refine bodyPost_ret (results_cell_row rfl _ _ gb574 64 #[.bool t590, .slice Ao26 t591.length co26] (0, 0) _ rfl (by (with_reducible repeat (first | refine blk_drewN ?_ _ | refine blk_drew ?_ | refine blk_alloc ?_ _)); refine blk_put (cs := #[.bool t590, .slice none 0 0]) ?_ 1 _ rfl; (with_reducible repeat (first | refine blk_drewN ?_ _ | refine blk_drew ?_ | refine blk_alloc ?_ _)); refine blk_put (cs := #[.bool false, .slice none 0 0]) ?_ 0 _ rfl; (with_reducible repeat (first | refine blk_drewN ?_ _ | refine blk_drew ?_ | refine blk_alloc ?_ _)); exact BK574.out) Try.underlying64 rfl m_13) rfl ?_
    exact ⟨_, m_5, (by (with_reducible repeat (first | apply Kd.V_alloc | apply Kd.V_drewN | apply Kd.V_drew)); exact Kd.V_mono (Kd.V_far (p := ⟨gb574, 1, none⟩) (Kd.V_far (p := ⟨gb574, 0, none⟩) (Kd.V_mono HO593.out (fun k_ hk => (⟨hk, hk.2.2.2⟩ : _ ∧ k_ ≠ gb574))) (fun _ hk => hk.2) (.bool t590)) (fun _ hk => hk.2) (.slice Ao26 t591.length co26)) (fun _ hk => hk.1.1)), m_10⟩
end Go.Proofs.Ytelklgdmhnkenaa.U
namespace Go.Proofs.Ytelklgdmhnkenaa.U
attribute [local go_sem] max2_int min2_int max_two min_two max_three min_three max_four min_four
def whole_DivModK.j0 : Nat → List Int → List Int → Bool → Bool → List Int → Bool → List Int → Option (Bool × List Int × Bool × List Int × Int)
 | 0, _, _, _, _, _, _, _ => none
 | k + 1, x9, x10, x34, x595000, x595001, x596000, x596001 => if x34 = true then none else ((whole_made.f k (x595000 != x596000) x9).bind fun bt618 => ((whole_made.f k false x10).bind fun bt622 => (some (bt618.1, bt618.2, bt622.1, bt622.2, 0))))
def whole_DivModK.f (k : Nat) (a0_0 : Bool) (l0_1 : List Int) (a1_0 : Bool) (l1_1 : List Int) : Option (Bool × List Int × Bool × List Int × Int) := (whole_trim.f k l0_1).bind fun t598 => ((whole_trim.f k l1_1).bind fun t601 => (if (t601.length : Int) = 0 then (none) else ((whole_div.f k t598 t601).bind fun bt604 => (if a0_0 = true then (whole_DivModK.j0 k bt604.1 bt604.2 (decide ((bt604.2.length : Int) > 0)) a0_0 l0_1 a1_0 l1_1) else (whole_DivModK.j0 k bt604.1 bt604.2 false a0_0 l0_1 a1_0 l1_1)))))
def whole_DivModK.T1 : Bool × List (List Nat × List Nat) := (true, [([], []), ([0], [0]), ([1], [1]), ([], []), ([3], [3]), ([4, 2], [4]), ([2, 5, 0, 1, 2], [2]), ([5, 6, 0, 1, 2, 3, 4, 5, 6], [5])])
def whole_DivModK.B1 : List Nat := [0, 1, 3, 0, 8, 31, 63, 127]
theorem whole_DivModK.tab1 : rtab .any (opsOf Try.f124 1) = whole_DivModK.T1 := by kernel_rfl
theorem whole_DivModK.bits1 : waitsOk whole_DivModK.T1.2 whole_DivModK.B1 = true := by kernel_rfl
set_option maxHeartbeats 8000000 in
set_option maxRecDepth 100000 in
theorem whole_DivModK.calls (k : Nat) (a0_0 : Bool) (P0_1_ : Nat → Prop) (A0_1 : Option Addr) (c0_1 : Nat) (l0_1 : List Int) (a1_0 : Bool) (P1_1_ : Nat → Prop) (A1_1 : Option Addr) (c1_1 : Nat) (l1_1 : List Int) (r1 : Bool) (r2 : List Int) (r3 : Bool) (r4 : List Int) (r5 : Int) (w : World) (hs0_1 : Kd.V (Kd.int .u32) 117 w w.heap.size (fun k_ => P0_1_ k_) (.slice A0_1 l0_1.length c0_1) l0_1) (hs1_1 : Kd.V (Kd.int .u32) 117 w w.heap.size (fun k_ => P1_1_ k_) (.slice A1_1 l1_1.length c1_1) l1_1) (h : whole_DivModK.f k a0_0 l0_1 a1_0 l1_1 = some (r1, r2, r3, r4, r5)) :
  Calls Try.prog 124 #[.agg #[.bool a0_0, .slice A0_1 l0_1.length c0_1], .agg #[.bool a1_0, .slice A1_1 l1_1.length c1_1]] w fun e w' => ∃ v1_ v3_ : Value, e = .returned (.tuple #[.agg #[.bool r1, v1_], .agg #[.bool r3, v3_], .int .i64 r5]) ∧ Kd.V (Kd.int .u32) 117 w' w.heap.size (fun k_ => (w.heap.size ≤ k_)) v1_ r2 ∧ Kd.V (Kd.int .u32) 117 w' w.heap.size (fun k_ => (w.heap.size ≤ k_)) v3_ r4 ∧ Below w.heap.size w w' := by
 have HO0_1 := Aside0.mk (show Kd.V (Kd.int .u32) 117 w w.heap.size (fun k_ => ((P0_1_ k_ ∨ P1_1_ k_) ∨ w.heap.size ≤ k_)) (.slice A0_1 l0_1.length c0_1) l0_1 from Kd.V_mono hs0_1 (fun k_ hk => .inl (.inl hk)))
 have HO1_1 := Aside0.mk (show Kd.V (Kd.int .u32) 117 w w.heap.size (fun k_ => ((P0_1_ k_ ∨ P1_1_ k_) ∨ w.heap.size ≤ k_)) (.slice A1_1 l1_1.length c1_1) l1_1 from Kd.V_mono hs1_1 (fun k_ hk => .inl (.inr hk)))
 have HB := Aside0.mk (Below.refl w.heap.size w)
 have H : ((whole_trim.f k l0_1).bind fun t598 => ((whole_trim.f k l1_1).bind fun t601 => (if (t601.length : Int) = 0 then (none) else ((whole_div.f k t598 t601).bind fun bt604 => (if a0_0 = true then (whole_DivModK.j0 k bt604.1 bt604.2 (decide ((bt604.2.length : Int) > 0)) a0_0 l0_1 a1_0 l1_1) else (whole_DivModK.j0 k bt604.1 bt604.2 false a0_0 l0_1 a1_0 l1_1)))))) = some (r1, r2, r3, r4, r5) := h
 clear h
 replace H := Option.bind_eq_some_iff.mp H
 obtain ⟨t598, A30, H⟩ := H
 replace H : ((whole_trim.f k l1_1).bind fun t601 => (if (t601.length : Int) = 0 then (none) else ((whole_div.f k t598 t601).bind fun bt604 => (if a0_0 = true then (whole_DivModK.j0 k bt604.1 bt604.2 (decide ((bt604.2.length : Int) > 0)) a0_0 l0_1 a1_0 l1_1) else (whole_DivModK.j0 k bt604.1 bt604.2 false a0_0 l0_1 a1_0 l1_1))))) = some (r1, r2, r3, r4, r5) := H
 have A3 := Aside0.mk A30
 clear A30
 replace H := Option.bind_eq_some_iff.mp H
 obtain ⟨t601, A40, H⟩ := H
 replace H : (if (t601.length : Int) = 0 then (none) else ((whole_div.f k t598 t601).bind fun bt604 => (if a0_0 = true then (whole_DivModK.j0 k bt604.1 bt604.2 (decide ((bt604.2.length : Int) > 0)) a0_0 l0_1 a1_0 l1_1) else (whole_DivModK.j0 k bt604.1 bt604.2 false a0_0 l0_1 a1_0 l1_1)))) = some (r1, r2, r3, r4, r5) := H
 have A4 := Aside0.mk A40
 clear A40
 by_cases c5 : (t601.length : Int) = 0
 ·rw [if_pos c5] at H
  clear c5
  cases H
 ·rw [if_neg c5] at H
  have c5b0 : ((t601.length : Int) == 0) = false := beq_eq_false_iff_ne.mpr c5
  replace H := Option.bind_eq_some_iff.mp H
  obtain ⟨⟨t604, t607⟩, A140, H⟩ := H
  replace H : (if a0_0 = true then (whole_DivModK.j0 k t604 t607 (decide ((t607.length : Int) > 0)) a0_0 l0_1 a1_0 l1_1) else (whole_DivModK.j0 k t604 t607 false a0_0 l0_1 a1_0 l1_1)) = some (r1, r2, r3, r4, r5) := H
  have A14 := Aside0.mk A140
  clear A140
  have HC15 := Aside0.mk H
  clear H
  go_enter Try.func124, Try.ntmps124
  try go_wp2_with (first | ((with_reducible refine gate_dst (N := 2) rfl ?_); (try (refine gate_guard (by rfl) ?_; dsimp only)); refine box_event ?hg (N := 2) ?hd (cs := #[.bool a0_0, .slice A0_1 l0_1.length c0_1]) (t := 64) ?hr ?_; (case hd => rfl); (case hg => rfl); (case hr => exact hr_); intro gb594 hg w16 hbox hb; have BK594 := Aside0.mk (hbox); replace HO0_1 := vE_ HO0_1 hg hb; replace HO1_1 := vE_ HO1_1 hg hb; replace HB := Aside0.mk (below_step m_1 hb); clear hb hbox hg) | ((with_reducible refine gate_dst (N := 3) rfl ?_); (try (refine gate_guard (by rfl) ?_; dsimp only)); refine box_event ?hg (N := 3) ?hd (cs := #[.bool a1_0, .slice A1_1 l1_1.length c1_1]) (t := 64) ?hr ?_; (case hd => rfl); (case hg => rfl); (case hr => exact hr_); intro gb595 hg w17 hbox hb; have BK595 := Aside0.mk (hbox); have NB594_595 := nl_ BK594 hg; have NB595_594 := ng_ BK594 hg; replace HO0_1 := vE_ HO0_1 hg hb; replace HO1_1 := vE_ HO1_1 hg hb; replace BK594 := bB_ BK594 hb; replace HB := Aside0.mk (below_step m_56 hb); clear hb hbox hg) | ((with_reducible refine gate_dst (N := 4) rfl ?_); (try (refine gate_guard (by rfl) ?_; dsimp only)); refine box_event ?hg (N := 4) ?hd (cs := #[.bool false, .slice none 0 0]) (t := 64) ?hr ?_; (case hd => rfl); (case hg => rfl); (case hr => exact hr_); intro gb596 hg w18 hbox hb; have BK596 := Aside0.mk (hbox); have GE596 := gW_ (w := w) hg m_32; have NB594_596 := nl_ BK594 hg; have NB596_594 := ng_ BK594 hg; replace HO0_1 := vE_ HO0_1 hg hb; replace HO1_1 := vE_ HO1_1 hg hb; replace BK594 := bB_ BK594 hb; replace BK595 := bB_ BK595 hb; replace HB := Aside0.mk (below_step m_32 hb); clear hb hbox hg) | ((with_reducible refine gate_dst (N := 5) rfl ?_); (try (refine gate_guard (by rfl) ?_; dsimp only)); refine box_event ?hg (N := 5) ?hd (cs := #[.bool false, .slice none 0 0]) (t := 64) ?hr ?_; (case hd => rfl); (case hg => rfl); (case hr => exact hr_); intro gb597 hg w19 hbox hb; have BK597 := Aside0.mk (hbox); have GE597 := gW_ (w := w) hg m_77; have NB594_597 := nl_ BK594 hg; have NB597_594 := ng_ BK594 hg; have NB596_597 := nl_ BK596 hg; have NB597_596 := ng_ BK596 hg; replace HO0_1 := vE_ HO0_1 hg hb; replace HO1_1 := vE_ HO1_1 hg hb; replace BK594 := bB_ BK594 hb; replace BK595 := bB_ BK595 hb; replace BK596 := bB_ BK596 hb; replace HB := Aside0.mk (below_step m_77 hb); clear hb hbox hg))
  replace HO0_1 := vD_ HO0_1
  replace HO1_1 := vD_ HO1_1
  replace BK594 := bD_ BK594
  replace BK595 := bD_ BK595
  replace BK596 := bD_ BK596
  replace BK597 := bD_ BK597
  replace HB := Aside0.mk (below_drew1 HB.out)
  refine start_ (n := 8) (S := fun w' => w'.cell? ⟨gb594, 0, none⟩ = some (.bool a0_0) ∧ w'.cell? ⟨gb594, 1, none⟩ = some (.slice A0_1 l0_1.length c0_1) ∧ w'.cell? ⟨gb595, 0, none⟩ = some (.bool a1_0) ∧ w'.cell? ⟨gb595, 1, none⟩ = some (.slice A1_1 l1_1.length c1_1)) (ds := []) #[false, false, false, false, false, false, false, false] m_13 rfl rfl ⟨(blk_cell BK594.out 0).trans rfl, (blk_cell BK594.out 1).trans rfl, (blk_cell BK595.out 0).trans rfl, (blk_cell BK595.out 1).trans rfl⟩ (fun hHeld => ?_); refine with_tabW whole_DivModK.tab1 whole_DivModK.bits1 (fun HT_ HW_ => ?_)
  generalize w19.drew = w20 at HO0_1 HO1_1 BK594 BK595 BK596 BK597 HB hHeld ⊢
  refine pA_ 0 HT_.out ?_
  refine pA_ 3 HT_.out ?_
  refine tA_ 1 HT_.out HW_.out hHeld ?_
  refine tA_ 4 HT_.out HW_.out hHeld ?_
  refine cB_1 2 Try.func88 (args := #[.slice A0_1 l0_1.length c0_1]) ?_
  with_reducible refine (whole_trim.calls k (fun k_ => ((((((P0_1_ k_ ∨ P1_1_ k_) ∨ w.heap.size ≤ k_) ∧ k_ ≠ gb594) ∧ k_ ≠ gb595) ∧ k_ ≠ gb596) ∧ k_ ≠ gb597)) _ _ l0_1 t598 _ ?side1 A3.out).mono ?_
  (case side1 => exact HO0_1.out)
  rintro e w21 ⟨v599, rfl, ho0, hb⟩
  refine ⟨_, rfl, ?_⟩
  have HO600 := Aside0.mk (Kd.V_lower (Kd.V_mono (ok' := fun k_ => ((P0_1_ k_ ∨ P1_1_ k_) ∨ w.heap.size ≤ k_) ∧ k_ ≠ gb594 ∧ k_ ≠ gb595 ∧ k_ ≠ gb596 ∧ k_ ≠ gb597) ho0 (fun k_ hk_ => ⟨Or.elim hk_ (fun hs_ => hs_.1.1.1.1) (fun hn_ => (.inr (Nat.le_trans (below_size m_8) hn_))), Or.elim hk_ (fun hs_ => hs_.1.1.1.2) (fun hn_ => (Kd.freshB (bA_ BK594.out) k_ hn_)), Or.elim hk_ (fun hs_ => hs_.1.1.2) (fun hn_ => (Kd.freshB (bA_ BK595.out) k_ hn_)), Or.elim hk_ (fun hs_ => hs_.1.2) (fun hn_ => (Kd.freshB (bA_ BK596.out) k_ hn_)), Or.elim hk_ (fun hs_ => hs_.2) (fun hn_ => (Kd.freshB (bA_ BK597.out) k_ hn_))⟩)) (below_size m_8))
  replace HO0_1 := vB_ HO0_1 hb
  replace HO1_1 := vB_ HO1_1 hb
  replace BK594 := bB_ BK594 hb
  replace BK595 := bB_ BK595 hb
  replace BK596 := bB_ BK596 hb
  replace BK597 := bB_ BK597 hb
  replace HB := Aside0.mk (below_step m_8 hb)
  (try clear hb); (try clear hb2); (try clear hk); (try clear hi); (try clear ho0)
  refine nx_ ⟨(blk_cell BK594.out 0).trans rfl, (blk_cell BK594.out 1).trans rfl, (blk_cell BK595.out 0).trans rfl, (blk_cell BK595.out 1).trans rfl⟩ (fun hHeld => ?_)
  refine cB_1 5 Try.func88 (args := #[.slice A1_1 l1_1.length c1_1]) ?_
  with_reducible refine (whole_trim.calls k (fun k_ => ((((((P0_1_ k_ ∨ P1_1_ k_) ∨ w.heap.size ≤ k_) ∧ k_ ≠ gb594) ∧ k_ ≠ gb595) ∧ k_ ≠ gb596) ∧ k_ ≠ gb597)) _ _ l1_1 t601 _ ?side1 A4.out).mono ?_
  (case side1 => exact HO1_1.out)
  rintro e w22 ⟨v602, rfl, ho0, hb⟩
  refine ⟨_, rfl, ?_⟩
  have HO603 := Aside0.mk (Kd.V_lower (Kd.V_mono (ok' := fun k_ => ((P0_1_ k_ ∨ P1_1_ k_) ∨ w.heap.size ≤ k_) ∧ k_ ≠ gb594 ∧ k_ ≠ gb595 ∧ k_ ≠ gb596 ∧ k_ ≠ gb597) ho0 (fun k_ hk_ => ⟨Or.elim hk_ (fun hs_ => hs_.1.1.1.1) (fun hn_ => (.inr (Nat.le_trans (below_size m_8) hn_))), Or.elim hk_ (fun hs_ => hs_.1.1.1.2) (fun hn_ => (Kd.freshB (bA_ BK594.out) k_ hn_)), Or.elim hk_ (fun hs_ => hs_.1.1.2) (fun hn_ => (Kd.freshB (bA_ BK595.out) k_ hn_)), Or.elim hk_ (fun hs_ => hs_.1.2) (fun hn_ => (Kd.freshB (bA_ BK596.out) k_ hn_)), Or.elim hk_ (fun hs_ => hs_.2) (fun hn_ => (Kd.freshB (bA_ BK597.out) k_ hn_))⟩)) (below_size m_8))
  replace HO0_1 := vB_ HO0_1 hb
  replace HO1_1 := vB_ HO1_1 hb
  replace HO600 := vB_ HO600 hb
  replace BK594 := bB_ BK594 hb
  replace BK595 := bB_ BK595 hb
  replace BK596 := bB_ BK596 hb
  replace BK597 := bB_ BK597 hb
  replace HB := Aside0.mk (below_step m_8 hb)
  (try clear hb); (try clear hb2); (try clear hk); (try clear hi); (try clear ho0)
  refine nx_ ⟨(blk_cell BK594.out 0).trans rfl, (blk_cell BK594.out 1).trans rfl, (blk_cell BK595.out 0).trans rfl, (blk_cell BK595.out 1).trans rfl⟩ (fun hHeld => ?_)
  refine pA_ 6 HT_.out ?_
  refine pA_ 7 HT_.out ?_
  refine done_ (done_of HT_.out m_13) ?_
  obtain ⟨Ao23, co23, eo23⟩ := Kd.V_slice HO603.out
  subst eo23
  obtain ⟨Ao24, co24, eo24⟩ := Kd.V_slice HO600.out
  subst eo24
  go_upto_region 5 with (first | ((with_reducible refine gate_callee (f := 134) rfl ?_); refine goesL_ (some 25) rfl rfl Try.func134 m_13 rfl #[.slice Ao24 t598.length co24, .slice Ao23 t601.length co23] rfl m_2 ?_; (with_reducible refine (whole_div.calls k _ _ t598 _ _ t601 t604 t607 _ ?side1 ?side2 ?side3 ?side4 A14.out).mono ?_); (case side1 => exact cA_ (Kd.V_reads' HO600.out).2.2); (case side2 => exact (Kd.V_reads' HO600.out).2.1); (case side3 => exact cA_ (Kd.V_reads' HO603.out).2.2); (case side4 => exact (Kd.V_reads' HO603.out).2.1); rintro e w25 ⟨v605, v608, rfl, ho0, ho1, hb⟩; refine ⟨_, rfl, ?_⟩; have HO606 := Aside0.mk (Kd.V_lower (Kd.V_mono (ok' := fun k_ => (w.heap.size ≤ k_) ∧ k_ ≠ gb594 ∧ k_ ≠ gb595 ∧ k_ ≠ gb596 ∧ k_ ≠ gb597) ho0 (fun k_ hk_ => ⟨((Nat.le_trans (below_size m_8) hk_)), (Kd.freshB (bA_ BK594.out) k_ hk_), (Kd.freshB (bA_ BK595.out) k_ hk_), (Kd.freshB (bA_ BK596.out) k_ hk_), (Kd.freshB (bA_ BK597.out) k_ hk_)⟩)) (below_size m_8)); have HO609 := Aside0.mk (Kd.V_lower (Kd.V_mono (ok' := fun k_ => (w.heap.size ≤ k_) ∧ k_ ≠ gb594 ∧ k_ ≠ gb595 ∧ k_ ≠ gb596 ∧ k_ ≠ gb597) ho1 (fun k_ hk_ => ⟨((Nat.le_trans (below_size m_8) hk_)), (Kd.freshB (bA_ BK594.out) k_ hk_), (Kd.freshB (bA_ BK595.out) k_ hk_), (Kd.freshB (bA_ BK596.out) k_ hk_), (Kd.freshB (bA_ BK597.out) k_ hk_)⟩)) (below_size m_8)); replace HO0_1 := vB_ HO0_1 hb; replace HO1_1 := vB_ HO1_1 hb; replace BK594 := bB_ BK594 hb; replace BK595 := bB_ BK595 hb; replace BK596 := bB_ BK596 hb; replace BK597 := bB_ BK597 hb; replace HB := Aside0.mk (below_step m_8 hb); clear hb; (try clear ho0); (try clear ho1)))
  (try simp only [Act.put, List.setIfInBounds_toArray, List.set_cons_zero, List.set_cons_succ])
  go_cut [34] (fun v34 wc => ∃ (kq : Nat) (x34_14 : Bool), v34 = .bool x34_14 ∧ Aside0 (whole_DivModK.j0 kq t604 t607 x34_14 a0_0 l0_1 a1_0 l1_1 = some (r1, r2, r3, r4, r5)) ∧ Aside0 (kq ≤ k) ∧ Aside0 (Kd.V (Kd.int .u32) 117 wc w.heap.size (fun k_ => (w.heap.size ≤ k_) ∧ k_ ≠ gb594 ∧ k_ ≠ gb595 ∧ k_ ≠ gb596 ∧ k_ ≠ gb597) v605 t604) ∧ Aside0 (Kd.V (Kd.int .u32) 117 wc w.heap.size (fun k_ => (w.heap.size ≤ k_) ∧ k_ ≠ gb594 ∧ k_ ≠ gb595 ∧ k_ ≠ gb596 ∧ k_ ≠ gb597) v608 t607) ∧ Aside0 (Kd.V (Kd.int .u32) 117 wc w.heap.size (fun k_ => ((P0_1_ k_ ∨ P1_1_ k_) ∨ w.heap.size ≤ k_) ∧ k_ ≠ gb594 ∧ k_ ≠ gb595 ∧ k_ ≠ gb596 ∧ k_ ≠ gb597) (.slice A0_1 l0_1.length c0_1) l0_1) ∧ Aside0 (Kd.V (Kd.int .u32) 117 wc w.heap.size (fun k_ => ((P0_1_ k_ ∨ P1_1_ k_) ∨ w.heap.size ≤ k_) ∧ k_ ≠ gb594 ∧ k_ ≠ gb595 ∧ k_ ≠ gb596 ∧ k_ ≠ gb597) (.slice A1_1 l1_1.length c1_1) l1_1) ∧ Aside0 (wc.heap[gb594]? = some (.cells #[.bool a0_0, (.slice A0_1 l0_1.length c0_1)] 64 (0, 0))) ∧ Aside0 (wc.heap[gb595]? = some (.cells #[.bool a1_0, (.slice A1_1 l1_1.length c1_1)] 64 (0, 0))) ∧ Aside0 (wc.heap[gb596]? = some (.cells #[.bool false, (.slice none 0 0)] 64 (0, 0))) ∧ Aside0 (wc.heap[gb597]? = some (.cells #[.bool false, (.slice none 0 0)] 64 (0, 0))) ∧ Aside0 (Below w.heap.size w wc))
  case first =>
   have H := HC15.out
   clear HC15
   by_cases c26 : a0_0 = true
   ·subst c26
    have H1 : (whole_DivModK.j0 k t604 t607 (decide ((t607.length : Int) > 0)) true l0_1 a1_0 l1_1) = some (r1, r2, r3, r4, r5) := by rw [if_pos rfl] at H; exact H
    clear H
    have H := H1
    clear H1
    have H' := Aside0.mk H
    clear H
    have hnb27 := NB594_595.out
    have hnc27 := NB595_594.out
    have hnb28 := NB594_596.out
    have hnc28 := NB596_594.out
    have hnb29 := NB594_597.out
    have hnc29 := NB597_594.out
    obtain ⟨hcz30_0, hcz30_1, hfz30_0, hfz30_1⟩ := cf2_ BK594
    obtain ⟨Ao31, co31, eo31⟩ := Kd.V_slice HO609.out
    subst eo31
    go_wp2
    go_meet
    case rel => exact ⟨_, (decide ((t607.length : Int) > 0)), m_9, H', ⟨m_71⟩, ⟨(by (with_reducible repeat (first | apply Kd.V_alloc | apply Kd.V_drewN | apply Kd.V_drew)); exact HO606.out)⟩, ⟨(by (with_reducible repeat (first | apply Kd.V_alloc | apply Kd.V_drewN | apply Kd.V_drew)); exact HO609.out)⟩, ⟨m_125⟩, ⟨m_124⟩, ⟨m_151⟩, ⟨m_150⟩, ⟨m_149⟩, ⟨m_148⟩, ⟨m_8⟩⟩
   ·replace c26 := Bool.eq_false_iff.mpr c26
    subst c26
    have H1 : (whole_DivModK.j0 k t604 t607 false false l0_1 a1_0 l1_1) = some (r1, r2, r3, r4, r5) := by rw [if_neg (show ¬ (false = true) by decide)] at H; exact H
    clear H
    have H := H1
    clear H1
    have H' := Aside0.mk H
    clear H
    have hnb32 := NB594_595.out
    have hnc32 := NB595_594.out
    have hnb33 := NB594_596.out
    have hnc33 := NB596_594.out
    have hnb34 := NB594_597.out
    have hnc34 := NB597_594.out
    obtain ⟨hcz35_0, hcz35_1, hfz35_0, hfz35_1⟩ := cf2_ BK594
    go_wp2
    go_meet
    case rel => exact ⟨_, (false), m_9, H', ⟨m_71⟩, ⟨(by (with_reducible repeat (first | apply Kd.V_alloc | apply Kd.V_drewN | apply Kd.V_drew)); exact HO606.out)⟩, ⟨(by (with_reducible repeat (first | apply Kd.V_alloc | apply Kd.V_drewN | apply Kd.V_drew)); exact HO609.out)⟩, ⟨m_125⟩, ⟨m_124⟩, ⟨m_151⟩, ⟨m_150⟩, ⟨m_149⟩, ⟨m_148⟩, ⟨m_8⟩⟩
  case rest =>
   clear HC15
   (try clear c1); (try clear c2); (try clear p2); (try clear c3); (try clear c5); (try clear c5b0); (try skip); (try skip); (try clear c8); (try clear c12); (try clear c13); (try clear c26); (try clear c27); (try clear c28); (try clear c29); (try clear c32); (try clear c33); (try clear c34); (try clear hcz30_0); (try clear hcz30_1); (try clear hcz35_0); (try clear hcz35_1); (try clear hfz30_0); (try clear hfz30_1); (try clear hfz35_0); (try clear hfz35_1)
   obtain ⟨kq, x34_14, rfl, HA, HJ14, HO_9, HO_10, HO_595001, HO_596001, BK594, BK595, BK596, BK597, HB⟩ := hcut
   cases kq with
   | zero => exact absurd HA.out (by simp [whole_DivModK.j0])
   | succ kj14 =>
    have H := HA.out
    clear HA
    simp only [whole_DivModK.j0] at H
    by_cases c36 : x34_14 = true
    ·subst c36
     rw [if_pos rfl] at H
     cases H
    ·replace c36 := Bool.eq_false_iff.mpr c36
     subst c36
     have H1 : ((whole_made.f kj14 (a0_0 != a1_0) t604).bind fun bt618 => ((whole_made.f kj14 false t607).bind fun bt622 => (some (bt618.1, bt618.2, bt622.1, bt622.2, 0)))) = some (r1, r2, r3, r4, r5) := by rw [if_neg (show ¬ (false = true) by decide)] at H; exact H
     clear H
     have H := H1
     clear H1
     replace H := Option.bind_eq_some_iff.mp H
     obtain ⟨⟨t618, t619⟩, A550, H⟩ := H
     replace H : ((whole_made.f kj14 false t607).bind fun bt622 => (some (t618, t619, bt622.1, bt622.2, 0))) = some (r1, r2, r3, r4, r5) := H
     have A55 := Aside0.mk A550
     clear A550
     replace H := Option.bind_eq_some_iff.mp H
     obtain ⟨⟨t622, t623⟩, A560, H⟩ := H
     replace H : (some (t618, t619, t622, t623, 0)) = some (r1, r2, r3, r4, r5) := H
     have A56 := Aside0.mk A560
     clear A560
     simp only [Option.some.injEq, Prod.mk.injEq] at H
     obtain ⟨rfl, rfl, rfl, rfl, rfl⟩ := H
     obtain ⟨hcz60_0, hcz60_1, hfz60_0, hfz60_1⟩ := cf2_ BK594
     obtain ⟨hcz63_0, hcz63_1, hfz63_0, hfz63_1⟩ := cf2_ BK595
     obtain ⟨Ao64, co64, eo64⟩ := Kd.V_slice HO_9.out
     subst eo64
     go_wp2_with (first | ((with_reducible refine gate_callee (f := 81) rfl ?_); refine goesL_ (some 47) rfl rfl Try.func81 m_13 rfl #[.bool (a0_0 != a1_0), .slice Ao64 t604.length co64] rfl m_2 ?_; (with_reducible refine (whole_made.calls kj14 (a0_0 != a1_0) (fun k_ => ((w.heap.size ≤ k_) ∧ (k_ ≠ gb594 ∧ (k_ ≠ gb595 ∧ (k_ ≠ gb596 ∧ k_ ≠ gb597))))) _ _ t604 t618 t619 _ ?side1 A55.out).mono ?_); (case side1 => exact HO_9.out); rintro e w65 ⟨v620, rfl, ho0, hb⟩; refine ⟨_, rfl, ?_⟩; have HO621 := Aside0.mk (Kd.V_lower (Kd.V_mono (ok' := fun k_ => (w.heap.size ≤ k_) ∧ k_ ≠ gb594 ∧ k_ ≠ gb595 ∧ k_ ≠ gb596 ∧ k_ ≠ gb597) ho0 (fun k_ hk_ => ⟨Or.elim hk_ (fun hs_ => hs_.1) (fun hn_ => ((Nat.le_trans (below_size m_8) hn_))), Or.elim hk_ (fun hs_ => hs_.2.1) (fun hn_ => (Kd.freshB (bA_ BK594.out) k_ hn_)), Or.elim hk_ (fun hs_ => hs_.2.2.1) (fun hn_ => (Kd.freshB (bA_ BK595.out) k_ hn_)), Or.elim hk_ (fun hs_ => hs_.2.2.2.1) (fun hn_ => (Kd.freshB (bA_ BK596.out) k_ hn_)), Or.elim hk_ (fun hs_ => hs_.2.2.2.2) (fun hn_ => (Kd.freshB (bA_ BK597.out) k_ hn_))⟩)) (below_size m_8)); replace HO_10 := vB_ HO_10 hb; replace BK594 := bB_ BK594 hb; replace BK595 := bB_ BK595 hb; replace BK596 := bB_ BK596 hb; replace BK597 := bB_ BK597 hb; replace HB := Aside0.mk (below_step m_8 hb); clear hb; (try clear ho0); obtain ⟨Ao66, co66, eo66⟩ := Kd.V_slice HO_10.out; subst eo66) | ((with_reducible refine gate_callee (f := 81) rfl ?_); refine goesL_ (some 49) rfl rfl Try.func81 m_13 rfl #[.bool false, .slice Ao66 t607.length co66] rfl m_2 ?_; (with_reducible refine (whole_made.calls kj14 false (fun k_ => ((w.heap.size ≤ k_) ∧ (k_ ≠ gb594 ∧ (k_ ≠ gb595 ∧ (k_ ≠ gb596 ∧ k_ ≠ gb597))))) _ _ t607 t622 t623 _ ?side1 A56.out).mono ?_); (case side1 => exact HO_10.out); rintro e w67 ⟨v624, rfl, ho0, hb⟩; refine ⟨_, rfl, ?_⟩; have HO625 := Aside0.mk (Kd.V_lower (Kd.V_mono (ok' := fun k_ => (w.heap.size ≤ k_) ∧ k_ ≠ gb594 ∧ k_ ≠ gb595 ∧ k_ ≠ gb596 ∧ k_ ≠ gb597) ho0 (fun k_ hk_ => ⟨Or.elim hk_ (fun hs_ => hs_.1) (fun hn_ => ((Nat.le_trans (below_size m_8) hn_))), Or.elim hk_ (fun hs_ => hs_.2.1) (fun hn_ => (Kd.freshB (bA_ BK594.out) k_ hn_)), Or.elim hk_ (fun hs_ => hs_.2.2.1) (fun hn_ => (Kd.freshB (bA_ BK595.out) k_ hn_)), Or.elim hk_ (fun hs_ => hs_.2.2.2.1) (fun hn_ => (Kd.freshB (bA_ BK596.out) k_ hn_)), Or.elim hk_ (fun hs_ => hs_.2.2.2.2) (fun hn_ => (Kd.freshB (bA_ BK597.out) k_ hn_))⟩)) (below_size m_8)); replace HO621 := vB_ HO621 hb; replace BK596 := bB_ BK596 hb; replace BK597 := bB_ BK597 hb; replace HB := Aside0.mk (below_step m_8 hb); clear hb; (try clear ho0); have hnc68 := NB597_596.out; obtain ⟨hcz69_0, hcz69_1, hfz69_0, hfz69_1⟩ := cf2_ BK596; obtain ⟨Ao70, co70, eo70⟩ := Kd.V_slice HO621.out; subst eo70; obtain ⟨hcz71_0, hcz71_1, hfz71_0, hfz71_1⟩ := cf2_ BK597; obtain ⟨Ao72, co72, eo72⟩ := Kd.V_slice HO625.out; subst eo72))
     refine bodyPost_ret (results_list (rs := [.cell 4 64, .cell 5 64, .tmp 6]) rfl (by simp) (.cell gb596 64 #[.bool t618, .slice Ao70 t619.length co70] (0, 0) _ rfl (by (with_reducible repeat (first | refine blk_drewN ?_ _ | refine blk_drew ?_ | refine blk_alloc ?_ _)); refine blk_far ?_ NB596_597.out _; (with_reducible repeat (first | refine blk_drewN ?_ _ | refine blk_drew ?_ | refine blk_alloc ?_ _)); refine blk_far ?_ NB596_597.out _; (with_reducible repeat (first | refine blk_drewN ?_ _ | refine blk_drew ?_ | refine blk_alloc ?_ _)); refine blk_put (cs := #[.bool t618, .slice none 0 0]) ?_ 1 _ rfl; (with_reducible repeat (first | refine blk_drewN ?_ _ | refine blk_drew ?_ | refine blk_alloc ?_ _)); refine blk_put (cs := #[.bool false, .slice none 0 0]) ?_ 0 _ rfl; (with_reducible repeat (first | refine blk_drewN ?_ _ | refine blk_drew ?_ | refine blk_alloc ?_ _)); exact BK596.out) Try.underlying64 rfl m_13 (.cell gb597 64 #[.bool t622, .slice Ao72 t623.length co72] (0, 0) _ rfl (by (with_reducible repeat (first | refine blk_drewN ?_ _ | refine blk_drew ?_ | refine blk_alloc ?_ _)); refine blk_put (cs := #[.bool t622, .slice none 0 0]) ?_ 1 _ rfl; (with_reducible repeat (first | refine blk_drewN ?_ _ | refine blk_drew ?_ | refine blk_alloc ?_ _)); refine blk_put (cs := #[.bool false, .slice none 0 0]) ?_ 0 _ rfl; (with_reducible repeat (first | refine blk_drewN ?_ _ | refine blk_drew ?_ | refine blk_alloc ?_ _)); refine blk_far ?_ NB597_596.out _; (with_reducible repeat (first | refine blk_drewN ?_ _ | refine blk_drew ?_ | refine blk_alloc ?_ _)); refine blk_far ?_ NB597_596.out _; (with_reducible repeat (first | refine blk_drewN ?_ _ | refine blk_drew ?_ | refine blk_alloc ?_ _)); exact BK597.out) Try.underlying64 rfl m_13 (.tmp .nil)))) rfl ?_
     exact ⟨_, _, m_5, (by (with_reducible repeat (first | apply Kd.V_alloc | apply Kd.V_drewN | apply Kd.V_drew)); exact Kd.V_mono (Kd.V_far (p := ⟨gb597, 1, none⟩) (Kd.V_far (p := ⟨gb597, 0, none⟩) (Kd.V_far (p := ⟨gb596, 1, none⟩) (Kd.V_far (p := ⟨gb596, 0, none⟩) (Kd.V_mono (Kd.V_mono HO621.out (fun k_ hk => (⟨hk, hk.2.2.2.1⟩ : _ ∧ k_ ≠ gb596))) (fun k_ hk => (⟨hk, hk.1.2.2.2.2⟩ : _ ∧ k_ ≠ gb597))) (fun _ hk => hk.1.2) (.bool t618)) (fun _ hk => hk.1.2) (.slice Ao70 t619.length co70)) (fun _ hk => hk.2) (.bool t622)) (fun _ hk => hk.2) (.slice Ao72 t623.length co72)) (fun _ hk => hk.1.1.1)), (by (with_reducible repeat (first | apply Kd.V_alloc | apply Kd.V_drewN | apply Kd.V_drew)); exact Kd.V_mono (Kd.V_far (p := ⟨gb597, 1, none⟩) (Kd.V_far (p := ⟨gb597, 0, none⟩) (Kd.V_far (p := ⟨gb596, 1, none⟩) (Kd.V_far (p := ⟨gb596, 0, none⟩) (Kd.V_mono (Kd.V_mono HO625.out (fun k_ hk => (⟨hk, hk.2.2.2.1⟩ : _ ∧ k_ ≠ gb596))) (fun k_ hk => (⟨hk, hk.1.2.2.2.2⟩ : _ ∧ k_ ≠ gb597))) (fun _ hk => hk.1.2) (.bool t618)) (fun _ hk => hk.1.2) (.slice Ao70 t619.length co70)) (fun _ hk => hk.2) (.bool t622)) (fun _ hk => hk.2) (.slice Ao72 t623.length co72)) (fun _ hk => hk.1.1.1)), m_8⟩
end Go.Proofs.Ytelklgdmhnkenaa.U
namespace Go.Proofs.Ytelklgdmhnkenaa.U
open Go.RowKit Go.Shelf Go.Proofs.YtelklgdmhnkenaaW.PrintWords Go.Proofs.YtelklgdmhnkenaaW.PrintLast Go.Proofs.YtelklgdmhnkenaaW.PrintMore
attribute [local go_sem] Oper.semAt_some max2_int max_two
def u64Of (ps : List (Int × Int)) : Int := ps.foldl (fun u p => IntKind.u64.wrap (u / 4294967296 + IntKind.u64.wrap (p.1 * 4294967296))) 0
def numF (neg : Bool) (u : Int) : Int × Bool := if neg = true then (if u ≤ 9223372036854775808 then (wrap64 (-(wrap64 u)), true) else (0, false)) else (if 0 ≤ wrap64 u then (wrap64 u, true) else (0, false))
def int64F (neg : Bool) (ws : List Int) : Int × Bool := if 2 < ws.length then (0, false) else numF neg (if ws.length = 1 then u64Of (prs ws [] (max ws.length ([] : List Int).length)) / 4294967296 else u64Of (prs ws [] (max ws.length ([] : List Int).length)))
set_option maxRecDepth 100000 in
set_option maxHeartbeats 8000000 in
theorem int64_calls (k : Nat) (neg : Bool) (A0 : Option Addr) (c0 : Nat) (l0 ws : List Int) (w : World) (hr0 : Kd.V (Kd.int .u32) 117 w w.heap.size (fun k_ => k_ < w.heap.size) (.slice A0 l0.length c0) l0) (ht : whole_trim.f k l0 = some ws) :
  Calls Try.prog 68 #[.agg #[.bool neg, .slice A0 l0.length c0]] w fun e W' => e = .returned (.tuple #[.int .i64 (int64F neg ws).1, .bool (int64F neg ws).2]) ∧ Below w.heap.size w W' := by
 obtain ⟨R, hR⟩ : ∃ R, R = int64F neg ws := ⟨_, rfl⟩
 rw [← hR]
 refine (callsIn_wide (n := 6)).1 ?_
 refine callsIn_of_wp_marks Try.func68 rfl trivial ?_ rfl
 simp only [Try.ntmps68, List.size_toArray, List.length_cons, List.length_nil, Nat.reduceAdd, Nat.reduceSub, Array.replicate_succ, Array.replicate_zero, List.push_toArray, List.append_toArray, List.nil_append, List.cons_append]
 have hu64 := Try.underlying64
 gi_wp2_with (refine ⟨trivial, ?_⟩; gi_at_call 88; refine (callsIn_wide.2 (whole_trim.calls k (fun k_ => k_ < w.heap.size) A0 c0 l0 ws _ (Kd.V_alloc hr0 _) ht)).mono ?_; rintro e w1 ⟨v1, rfl, hv1, hb1⟩; refine stopHere ?_)
 intro _
 have hbox := blk_below (blk_new w (.cells #[.bool neg, .slice A0 l0.length c0] 64)) hb1
 have hB1 : Below w.heap.size w w1 := below_step (below_alloc (Below.refl _ _) _) hb1
 obtain ⟨A1, c1, e1⟩ := Kd.V_slice hv1
 subst e1
 have hW1 := words_of (Kd.V_reads' hv1).2.2
 have hx0 : w1.cell? ⟨w.heap.size, 0, none⟩ = some (.bool neg) := (blk_cell hbox 0).trans rfl
 have hsz1 := hB1.size
 have hlt1 := blk_lt hbox
 clear hv1 hr0 ht
 by_cases h2 : 2 < ws.length
 ·have h2' : (2 : Int) < (ws.length : Int) := by omega
  have hRR : R = (0, false) := hR.trans (if_pos h2)
  gi_wp2
  exact ⟨_, results_tmp2 rfl _ _ _, m_95, hB1⟩
 ·have h2' : ¬ (2 : Int) < (ws.length : Int) := by omega
  gi_wp2_with (refine ⟨trivial, ?_⟩; gi_at_call 89; refine (pairs_in Fence.wide _ trivial rfl _ _ _ _ _ _ _).mono ?_; rintro e w' ⟨rfl, rfl⟩)
  have k0 := box_new w1 (.int .u64 0) 115
  have k1 := box_new (w1.alloc (.cells #[.int .u64 0] 115)) (.slice A1 ws.length c1) 62
  have k2 := box_new ((w1.alloc (.cells #[.int .u64 0] 115)).alloc (.cells #[.slice A1 ws.length c1] 62)) (.slice none 0 0) 62
  simp only [World.size_alloc] at k1 k2
  have hB3 : Below w1.heap.size w1 (((w1.alloc (.cells #[.int .u64 0] 115)).alloc (.cells #[.slice A1 ws.length c1] 62)).alloc (.cells #[.slice none 0 0] 62)) := below_alloc (below_alloc (below_alloc (Below.refl _ _) _) _) _
  have hB4 : Below w.heap.size w (((w1.alloc (.cells #[.int .u64 0] 115)).alloc (.cells #[.slice A1 ws.length c1] 62)).alloc (.cells #[.slice none 0 0] 62)) := below_step hB1 hB3
  have i0 := box_alloc (.cells #[.slice none 0 0] 62) (box_alloc (.cells #[.slice A1 ws.length c1] 62) k0)
  have i1 := box_alloc (.cells #[.slice none 0 0] 62) k1
  have i2 : (((w1.alloc (.cells #[.int .u64 0] 115)).alloc (.cells #[.slice A1 ws.length c1] 62)).alloc (.cells #[.slice none 0 0] 62)).cell? ⟨w.heap.size, 0, none⟩ = some (.bool neg) := (hB3.cell (p := ⟨w.heap.size, 0, none⟩) hlt1).trans hx0
  have hsz : (((w1.alloc (.cells #[.int .u64 0] 115)).alloc (.cells #[.slice A1 ws.length c1] 62)).alloc (.cells #[.slice none 0 0] 62)).heap.size = w1.heap.size + 3 := by simp
  obtain ⟨w3, hw3⟩ : ∃ W, W = ((w1.alloc (.cells #[.int .u64 0] 115)).alloc (.cells #[.slice A1 ws.length c1] 62)).alloc (.cells #[.slice none 0 0] 62) := ⟨_, rfl⟩
  rw [← hw3] at hB3 hB4 i0 i1 i2 hsz k2 ⊢
  refine wpIn_rangeFunc_ownF rfl (by omega) (gf := 108) (lb := #[.pointer (some ⟨w1.heap.size + 1, 0, none⟩), .pointer (some ⟨w1.heap.size + 1 + 1, 0, none⟩)]) rfl trivial (enters_of Try.func108 m_13 rfl)
   (pairs_stops Fence.wide 5 trivial rfl (by omega) (w1.heap.size + 1) (w1.heap.size + 1 + 1) w1.heap.size c1 0 A1 none ws [] (by omega) (by simp) w3 (by omega) (by omega) (by omega) i1.1 k2.1 (words_below hW1 hB3) (fun k hk => by simp at hk)) kpS_t (kpS_b (by omega) (by omega) (by omega)) (Below.refl _ _) (fun _ => rfl)
   (fun pre W => (W.cell? ⟨w1.heap.size, 0, none⟩ = some (.int .u64 (u64Of pre)) ∧ W.frozen? ⟨w1.heap.size, 0, none⟩ = false ∧ W.cell? ⟨w.heap.size, 0, none⟩ = some (.bool neg)) ∧ Below w.heap.size w W)
   (fun _ _ _ => False)
   (OwnFrom.and (Own.from (fun s A B row hs hg hr => ⟨cell_kept hs.1 hg hr, (frozen_kept hs.1 hg hr).trans hs.2.1, cell_kept hs.2.2 hg hr⟩) _) (ownFrom_below (Nat.le_refl _) (by omega)))
   (fun _ _ _ _ _ hs _ _ => hs)
   ⟨⟨i0.1, i0.2, i2⟩, hB4⟩
   (fun x => { tmps := #[.agg #[.bool neg, .slice A0 l0.length c0], .pointer (some ⟨w.heap.size, 0, none⟩), .int .i64 0, .bool false, .slice A1 ws.length c1, .pointer (some ⟨w1.heap.size, 0, none⟩), .int .u64 x.1, undef, .pointer (some ⟨w.heap.size, 1, none⟩), .slice A0 l0.length c0, .slice A1 ws.length c1, .slice A1 ws.length c1, .int .i64 ws.length, .bool false, .slice A1 ws.length c1, .func (.func 108) #[] #[.pointer (some ⟨w1.heap.size + 1, 0, none⟩), .pointer (some ⟨w1.heap.size + 1 + 1, 0, none⟩)], .int .u64 x.1, .int .u64 x.2, undef, undef, undef, undef, undef, undef, undef, undef, undef, undef, undef, undef, undef, undef, undef, undef, undef, undef, undef, undef, undef, undef, undef, undef, undef, undef, undef, undef], defers := [] }) ?assign ?body ?done ?stop
  case assign =>
   intro l x W K hK
   gi_wp2
   exact hK
  case body =>
   rintro l pre x W ⟨⟨hc, hf, hn⟩, hB⟩ _
   gi_wp2
   refine ⟨KeepsOthers.setCell _ _ _, fun k hk => Below.heap_setCell W ⟨w1.heap.size, 0, none⟩ _ k (by show k ≠ w1.heap.size; omega), ⟨?_, (by rw [World.frozen?_setCell]; exact hf), (cell_far (by show w.heap.size ≠ w1.heap.size; omega) _).trans hn⟩, hB.setCell (p := ⟨w1.heap.size, 0, none⟩) (by show w.heap.size ≤ w1.heap.size; omega) _⟩
   rw [show u64Of (pre ++ [x]) = IntKind.u64.wrap (u64Of pre / 4294967296 + IntKind.u64.wrap (x.1 * 4294967296)) by simp [u64Of]]
   exact World.cell?_setCell_same' _ _ _ (by rw [hc]; rfl)
  case done =>
   rintro D ys W hD rfl ⟨⟨hc, hf, hn⟩, hB⟩ hK
   generalize hu : u64Of (prs ws [] (max ws.length ([] : List Int).length)) = u at hc
   have hI : int64F neg ws = numF neg (if ws.length = 1 then u / 4294967296 else u) := by unfold int64F; rw [if_neg h2, hu]
   by_cases h1 : ws.length = 1
   ·rw [if_pos h1] at hI
    have hb1 : ((ws.length : Int) == 1) = true := by simp [h1]
    have hK' := (KeepsOthers.setCell W ⟨w1.heap.size, 0, none⟩ (.int .u64 (u / 4294967296))).same D _ hK rfl
    have hB' := hB.setCell (p := ⟨w1.heap.size, 0, none⟩) (by show w.heap.size ≤ w1.heap.size; omega) (.int .u64 (u / 4294967296))
    have hc' : (W.setCell ⟨w1.heap.size, 0, none⟩ (.int .u64 (u / 4294967296))).cell? ⟨w.heap.size, 0, none⟩ = some (.bool neg) := (cell_far (by show w.heap.size ≠ w1.heap.size; omega) _).trans hn
    cases neg
    ·by_cases hp : 0 ≤ wrap64 (u / 4294967296)
     ·have hres : numF false (u / 4294967296) = (wrap64 (u / 4294967296), true) := by unfold numF; simp only [Bool.false_eq_true, if_true, if_false, hp]
      have hRR : R = (wrap64 (u / 4294967296), true) := hR.trans (hI.trans hres)
      gi_wp2
      exact ⟨(by simp), .inl ⟨_, _, rfl, run_takeDeferred hK', ⟨_, results_tmp2 rfl _ _ _, m_95, hB'.trans (belowK_b (w := w) (Nat.le_refl _) (W.setCell ⟨w1.heap.size, 0, none⟩ (.int .u64 (u / 4294967296))) D _ _ (by omega) hK' rfl rfl)⟩⟩⟩
     ·have hres : numF false (u / 4294967296) = (0, false) := by unfold numF; simp only [Bool.false_eq_true, if_true, if_false, hp]
      have hRR : R = (0, false) := hR.trans (hI.trans hres)
      gi_wp2
      exact ⟨(by simp), .inl ⟨_, _, rfl, run_takeDeferred hK', ⟨_, results_tmp2 rfl _ _ _, m_95, hB'.trans (belowK_b (w := w) (Nat.le_refl _) (W.setCell ⟨w1.heap.size, 0, none⟩ (.int .u64 (u / 4294967296))) D _ _ (by omega) hK' rfl rfl)⟩⟩⟩
    ·by_cases hp : u / 4294967296 ≤ 9223372036854775808
     ·have hres : numF true (u / 4294967296) = (wrap64 (-(wrap64 (u / 4294967296))), true) := by unfold numF; simp only [Bool.false_eq_true, if_true, if_false, hp]
      have hRR : R = (wrap64 (-(wrap64 (u / 4294967296))), true) := hR.trans (hI.trans hres)
      gi_wp2
      exact ⟨(by simp), .inl ⟨_, _, rfl, run_takeDeferred hK', ⟨_, results_tmp2 rfl _ _ _, m_95, hB'.trans (belowK_b (w := w) (Nat.le_refl _) (W.setCell ⟨w1.heap.size, 0, none⟩ (.int .u64 (u / 4294967296))) D _ _ (by omega) hK' rfl rfl)⟩⟩⟩
     ·have hres : numF true (u / 4294967296) = (0, false) := by unfold numF; simp only [Bool.false_eq_true, if_true, if_false, hp]
      have hRR : R = (0, false) := hR.trans (hI.trans hres)
      gi_wp2
      exact ⟨(by simp), .inl ⟨_, _, rfl, run_takeDeferred hK', ⟨_, results_tmp2 rfl _ _ _, m_95, hB'.trans (belowK_b (w := w) (Nat.le_refl _) (W.setCell ⟨w1.heap.size, 0, none⟩ (.int .u64 (u / 4294967296))) D _ _ (by omega) hK' rfl rfl)⟩⟩⟩
   ·rw [if_neg h1] at hI
    have hb1 : ((ws.length : Int) == 1) = false := by rw [beq_eq_false_iff_ne]; omega
    have hK' := hK
    have hB' := hB
    cases neg
    ·by_cases hp : 0 ≤ wrap64 (u)
     ·have hres : numF false (u) = (wrap64 (u), true) := by unfold numF; simp only [Bool.false_eq_true, if_true, if_false, hp]
      have hRR : R = (wrap64 (u), true) := hR.trans (hI.trans hres)
      gi_wp2
      exact ⟨(by simp), .inl ⟨_, _, rfl, run_takeDeferred hK', ⟨_, results_tmp2 rfl _ _ _, m_95, hB'.trans (belowK_b (w := w) (Nat.le_refl _) W D _ _ (by omega) hK' rfl rfl)⟩⟩⟩
     ·have hres : numF false (u) = (0, false) := by unfold numF; simp only [Bool.false_eq_true, if_true, if_false, hp]
      have hRR : R = (0, false) := hR.trans (hI.trans hres)
      gi_wp2
      exact ⟨(by simp), .inl ⟨_, _, rfl, run_takeDeferred hK', ⟨_, results_tmp2 rfl _ _ _, m_95, hB'.trans (belowK_b (w := w) (Nat.le_refl _) W D _ _ (by omega) hK' rfl rfl)⟩⟩⟩
    ·by_cases hp : u ≤ 9223372036854775808
     ·have hres : numF true (u) = (wrap64 (-(wrap64 (u))), true) := by unfold numF; simp only [Bool.false_eq_true, if_true, if_false, hp]
      have hRR : R = (wrap64 (-(wrap64 (u))), true) := hR.trans (hI.trans hres)
      gi_wp2
      exact ⟨(by simp), .inl ⟨_, _, rfl, run_takeDeferred hK', ⟨_, results_tmp2 rfl _ _ _, m_95, hB'.trans (belowK_b (w := w) (Nat.le_refl _) W D _ _ (by omega) hK' rfl rfl)⟩⟩⟩
     ·have hres : numF true (u) = (0, false) := by unfold numF; simp only [Bool.false_eq_true, if_true, if_false, hp]
      have hRR : R = (0, false) := hR.trans (hI.trans hres)
      gi_wp2
      exact ⟨(by simp), .inl ⟨_, _, rfl, run_takeDeferred hK', ⟨_, results_tmp2 rfl _ _ _, m_95, hB'.trans (belowK_b (w := w) (Nat.le_refl _) W D _ _ (by omega) hK' rfl rfl)⟩⟩⟩
  case stop =>
   rintro D c pre W _ _ h _
   exact h.elim
def trimF (l : List Int) : List Int := (l.reverse.dropWhile (· == 0)).reverse
theorem trimF_snoc (i : List Int) (x : Int) : trimF (i ++ [x]) = if x = 0 then trimF i else i ++ [x] := by
 unfold trimF
 rw [List.reverse_append, List.reverse_singleton, List.singleton_append, List.dropWhile_cons]
 by_cases h : x = 0
 ·simp [h]
 ·simp [h]
theorem wrap64_id {x : Int} (h0 : -9223372036854775808 ≤ x) (h1 : x ≤ 9223372036854775807) : wrap64 x = x := by unfold wrap64; omega
theorem trim_ex : ∀ (n : Nat) (l : List Int), l.length = n → l.length ≤ 1000000000000 → ∃ k, whole_trim.f k l = some (trimF l)
 | 0, l, hl, _ => by
  obtain rfl : l = [] := List.eq_nil_of_length_eq_zero hl
  exact ⟨1, rfl⟩
 | n + 1, l, hl, hb => by
  obtain ⟨i, x, rfl⟩ : ∃ i x, l = i ++ [x] := ⟨l.dropLast, l.getLast (by intro e; rw [e] at hl; simp at hl), (List.dropLast_concat_getLast (by intro e; rw [e] at hl; simp at hl)).symm⟩
  have hi : i.length = n := by simpa using hl
  have hlen : ((i ++ [x]).length : Int) = (n : Int) + 1 := by simp [hi]
  have hrd : rd (i ++ [x]) (n : Int) = x := by simp [rd, ← hi]
  have htk : (i ++ [x]).take (n : Int).toNat = i := by simp [← hi]
  have hn : (n : Int) ≤ 1000000000000 := by
   have : (i ++ [x]).length = n + 1 := by simp [hi]
   omega
  obtain ⟨k, hk⟩ := trim_ex n i hi (by omega)
  refine ⟨k + 1, ?_⟩
  unfold whole_trim.f at hk ⊢
  simp only [whole_trim.l0]
  rw [hlen, show (n : Int) + 1 - 1 = n by omega, wrap64_id (by omega) (by omega), if_pos (by omega), if_pos (by omega), if_pos (by omega), hrd, htk, trimF_snoc]
  by_cases hx : x = 0
  ·rw [if_pos hx, if_pos (by omega), if_pos hx]
   exact hk
  ·rw [if_neg hx, if_neg hx]
def whole_Int64.f (a0_0 : Bool) (l0_1 : List Int) : Option (Int × Bool) := if l0_1.length ≤ 1000000000000 then some (int64F a0_0 (trimF l0_1)) else none
theorem whole_Int64.calls (a0_0 : Bool) (A0_1 : Option Addr) (c0_1 : Nat) (l0_1 : List Int) (r1 : Int) (r2 : Bool) (w : World) (hr0_1 : Kd.C (Kd.int .u32) w A0_1 l0_1.length l0_1) (hc0_1 : l0_1.length ≤ c0_1) (h : whole_Int64.f a0_0 l0_1 = some (r1, r2)) :
  Calls Try.prog 68 #[.agg #[.bool a0_0, .slice A0_1 l0_1.length c0_1]] w fun e w' => e = .returned (.tuple #[.int .i64 r1, .bool r2]) ∧ Below w.heap.size w w' := by
 unfold whole_Int64.f at h
 by_cases hl : l0_1.length ≤ 1000000000000
 ·rw [if_pos hl] at h
  obtain ⟨k, hk⟩ := trim_ex _ l0_1 rfl hl
  have h2 := Option.some.inj h
  refine (int64_calls k a0_0 A0_1 c0_1 l0_1 (trimF l0_1) w (Kd.V_mk hc0_1 (Kd.C_F (Kd.heap_int _) hr0_1)) hk).mono ?_
  rintro e w' ⟨rfl, hb⟩
  rw [h2]
  exact ⟨rfl, hb⟩
 ·rw [if_neg hl] at h
  cases h
theorem info66 : (Try.prog.info? 66).map (fun i => (i.zero, i.size, i.bytes)) = some (some (.agg #[(.bool false), (.slice none 0 0), (.bool false), (.slice none 0 0)]), 4, 64) := by kernel_rfl
def zW (x : Int) : List Int := if x = 0 then [] else if x.natAbs < 4294967296 then [(x.natAbs : Int)] else [(x.natAbs : Int) % 4294967296, (x.natAbs : Int) / 4294967296]
def zS (x : Int) : Bool := decide (x < 0)
def zV (b : Bool) (l : List Int) : Int := if b then -(rd l 0 + 4294967296 * rd l 1) else rd l 0 + 4294967296 * rd l 1
def okQ (b : Bool) (l : List Int) (c : Bool) (m : List Int) : Prop := c = false ∧ m = [] ∧ -4611686018427387904 < zV b l ∧ zV b l < 4611686018427387904 ∧ b = zS (zV b l) ∧ l = zW (zV b l)
instance (b : Bool) (l : List Int) (c : Bool) (m : List Int) : Decidable (okQ b l c m) := by unfold okQ; exact inferInstance
def smallQ (b : Bool) (l : List Int) : Prop := -4294967296 < zV b l ∧ zV b l < 4294967296
instance (b : Bool) (l : List Int) : Decidable (smallQ b l) := by unfold smallQ; exact inferInstance
theorem zV_z {x : Int} (h0 : -4611686018427387904 < x) (h1 : x < 4611686018427387904) : zV (zS x) (zW x) = x := by
  unfold zV zS zW
  by_cases hx : x = 0
  · subst hx; simp [rd]
  · rw [if_neg hx]
    by_cases hn : x.natAbs < 4294967296
    · rw [if_pos hn]
      by_cases hneg : x < 0
      · simp [hneg, rd]; omega
      · simp [hneg, rd]; omega
    · rw [if_neg hn]
      by_cases hneg : x < 0
      · simp [hneg, rd]; omega
      · simp [hneg, rd]; omega
theorem okQ_z {x : Int} (h0 : -4611686018427387904 < x) (h1 : x < 4611686018427387904) : okQ (zS x) (zW x) false [] := by
  unfold okQ
  rw [zV_z h0 h1]
  exact ⟨rfl, rfl, h0, h1, rfl, rfl⟩
def frac_FromInt64.f (a0 : Int) : Option (Bool × List Int × Bool × List Int) := if -4611686018427387904 < a0 ∧ a0 < 4611686018427387904 then some (zS a0, zW a0, false, []) else none
def frac_Sign.f (a : Bool) (l : List Int) (b : Bool) (m : List Int) : Option Int := if okQ a l b m then some (if zV a l = 0 then 0 else if zV a l < 0 then -1 else 1) else none
def frac_Cmp.f (a : Bool) (l : List Int) (b : Bool) (m : List Int) (a' : Bool) (l' : List Int) (b' : Bool) (m' : List Int) : Option Int := if okQ a l b m ∧ okQ a' l' b' m' then some (if zV a l = zV a' l' then 0 else if zV a l < zV a' l' then -1 else 1) else none
def frac_Min.f (a : Bool) (l : List Int) (b : Bool) (m : List Int) (a' : Bool) (l' : List Int) (b' : Bool) (m' : List Int) : Option (Bool × List Int × Bool × List Int) := if okQ a l b m ∧ okQ a' l' b' m' then some (if zV a l ≤ zV a' l' then (a, l, false, []) else (a', l', false, [])) else none
def frac_Add.f (a : Bool) (l : List Int) (b : Bool) (m : List Int) (a' : Bool) (l' : List Int) (b' : Bool) (m' : List Int) : Option (Bool × List Int × Bool × List Int) := if okQ a l b m ∧ okQ a' l' b' m' then some (zS (zV a l + zV a' l'), zW (zV a l + zV a' l'), false, []) else none
def frac_Sub.f (a : Bool) (l : List Int) (b : Bool) (m : List Int) (a' : Bool) (l' : List Int) (b' : Bool) (m' : List Int) : Option (Bool × List Int × Bool × List Int) := if okQ a l b m ∧ okQ a' l' b' m' then some (zS (zV a l - zV a' l'), zW (zV a l - zV a' l'), false, []) else none
def frac_Mul.f (a : Bool) (l : List Int) (b : Bool) (m : List Int) (a' : Bool) (l' : List Int) (b' : Bool) (m' : List Int) : Option (Bool × List Int × Bool × List Int) := if okQ a l b m ∧ okQ a' l' b' m' ∧ smallQ a l ∧ smallQ a' l' ∧ -4611686018427387904 < zV a l * zV a' l' ∧ zV a l * zV a' l' < 4611686018427387904 then some (zS (zV a l * zV a' l'), zW (zV a l * zV a' l'), false, []) else none
def cW (l : List Int) : Prop := l = [] ∨ (∃ x, l = [x] ∧ 0 < x ∧ x < 4294967296) ∨ (∃ x y, l = [x, y] ∧ 0 ≤ x ∧ x < 4294967296 ∧ 0 < y ∧ y < 4294967296)
def cWb (l : List Int) : Bool := match l with
 | [] => true
 | [x] => decide (0 < x) && decide (x < 4294967296)
 | [x, y] => decide (0 ≤ x) && decide (x < 4294967296) && decide (0 < y) && decide (y < 4294967296)
 | _ => false
theorem cW_of {l : List Int} (h : cWb l = true) : cW l := by
 unfold cWb at h
 unfold cW
 split at h
 ·exact .inl rfl
 ·simp at h; exact .inr (.inl ⟨_, rfl, h.1, h.2⟩)
 ·simp at h; exact .inr (.inr ⟨_, _, rfl, h.1.1.1, h.1.1.2, h.1.2, h.2⟩)
 ·cases h
theorem cWb_of {l : List Int} (h : cW l) : cWb l = true := by
 rcases h with rfl | ⟨x, rfl, h1, h2⟩ | ⟨x, y, rfl, h1, h2, h3, h4⟩
 ·rfl
 ·simp [cWb, h1, h2]
 ·simp [cWb, h1, h2, h3, h4]
def wv (l : List Int) : Int := rd l 0 + 4294967296 * rd l 1
theorem zW_nn {x : Int} (h : 0 ≤ x) : zW x = if x = 0 then [] else if x < 4294967296 then [x] else [x % 4294967296, x / 4294967296] := by
  unfold zW
  have : (x.natAbs : Int) = x := by omega
  by_cases hx : x = 0
  · rw [if_pos hx, if_pos hx]
  · rw [if_neg hx, if_neg hx, this]
    by_cases h2 : x < 4294967296
    · rw [if_pos h2, if_pos (by omega)]
    · rw [if_neg h2, if_neg (by omega)]
theorem zW_abs (x : Int) : zW (x.natAbs : Int) = zW x := by
  unfold zW
  by_cases hx : x = 0
  · subst hx; rfl
  · rw [if_neg hx, if_neg (by omega)]
    simp
theorem zW_neg (x : Int) : zW (-x) = zW x := by rw [← zW_abs (-x), ← zW_abs x, Int.natAbs_neg]
theorem tr1 {a : Int} (h0 : 0 ≤ a) (h1 : a < 4294967296) : trimF [a] = zW a := by
  rw [zW_nn h0]
  by_cases h : a = 0
  · simp [trimF, h]
  · simp [trimF, h, h1]
theorem tr2 {a b : Int} (h0 : 0 ≤ a) (h1 : a < 4294967296) (h2 : 0 ≤ b) (h3 : b < 4294967296) : trimF [a, b] = zW (a + 4294967296 * b) := by
  by_cases hb : b = 0
  · subst hb
    rw [show [a, (0 : Int)] = [a] ++ [0] from rfl, trimF_snoc, if_pos rfl, tr1 h0 h1]
    simp
  · rw [show [a, b] = [a] ++ [b] from rfl, trimF_snoc, if_neg hb, zW_nn (by omega), if_neg (by omega), if_neg (by omega), show (a + 4294967296 * b) % 4294967296 = a by omega, show (a + 4294967296 * b) / 4294967296 = b by omega]
    rfl
theorem tr3 {a b c : Int} (h0 : 0 ≤ a) (h1 : a < 4294967296) (h2 : 0 ≤ b) (h3 : b < 4294967296) (h4 : c = 0) : trimF [a, b, c] = zW (a + 4294967296 * b) := by
  rw [show [a, b, c] = [a, b] ++ [c] from rfl, trimF_snoc, if_pos h4, tr2 h0 h1 h2 h3]
theorem cW_z (x : Int) (h : x.natAbs < 18446744073709551616) : cW (zW x) := by
  unfold zW cW
  by_cases hx : x = 0
  · rw [if_pos hx]; exact .inl rfl
  · rw [if_neg hx]
    by_cases h2 : x.natAbs < 4294967296
    · rw [if_pos h2]; exact .inr (.inl ⟨_, rfl, by omega, by omega⟩)
    · rw [if_neg h2]; exact .inr (.inr ⟨_, _, rfl, by omega, by omega, by omega, by omega⟩)
theorem wv_z (x : Int) (h : x.natAbs < 18446744073709551616) : wv (zW x) = x.natAbs := by
  unfold zW wv
  by_cases hx : x = 0
  · rw [if_pos hx]; simp [rd, hx]
  · rw [if_neg hx]
    by_cases h2 : x.natAbs < 4294967296
    · rw [if_pos h2]; simp [rd]
    · rw [if_neg h2]; simp [rd]; omega
theorem z_wv {l : List Int} (h : cW l) : zW (wv l) = l := by
  rcases h with rfl | ⟨x, rfl, h1, h2⟩ | ⟨x, y, rfl, h1, h2, h3, h4⟩
  · rfl
  · have : wv [x] = x := by simp [wv, rd]
    rw [this, zW_nn (by omega), if_neg (by omega), if_pos h2]
  · have : wv [x, y] = x + 4294967296 * y := by simp [wv, rd]
    rw [this, zW_nn (by omega), if_neg (by omega), if_neg (by omega), show (x + 4294967296 * y) % 4294967296 = x by omega, show (x + 4294967296 * y) / 4294967296 = y by omega]
theorem wv_nn {l : List Int} (h : cW l) : 0 ≤ wv l ∧ wv l < 18446744073709551616 := by
  rcases h with rfl | ⟨x, rfl, h1, h2⟩ | ⟨x, y, rfl, h1, h2, h3, h4⟩
  · simp [wv, rd]
  · simp [wv, rd]; omega
  · simp [wv, rd]; omega
theorem u64_eq (x : Int) : IntKind.u64.wrap x = x % 18446744073709551616 := by
  simp [IntKind.wrap, IntKind.signed, IntKind.bits]
theorem u64_id {x : Int} (h0 : 0 ≤ x) (h1 : x < 18446744073709551616) : IntKind.u64.wrap x = x := by
  rw [u64_eq]; omega
def wl (l : List Int) (k : Nat) : Int := l[k]?.getD 0
theorem wl_b {l : List Int} (h : cW l) (k : Nat) : 0 ≤ wl l k ∧ wl l k < 4294967296 := by
  rcases h with rfl | ⟨x, rfl, h1, h2⟩ | ⟨x, y, rfl, h1, h2, h3, h4⟩
  · simp [wl]
  · match k with
    | 0 => simp [wl]; omega
    | k + 1 => simp [wl]
  · match k with
    | 0 => simp [wl]; omega
    | 1 => simp [wl]; omega
    | k + 2 => simp [wl]
theorem wv_wl (l : List Int) : wv l = wl l 0 + 4294967296 * wl l 1 := by
  simp [wv, wl, rd]
theorem pairAt_w {l m : List Int} (h : cW l) (h' : cW m) (k : Nat) : pairAt l m k = (wl l k, wl m k) := by
  unfold pairAt
  have a := wl_b h k
  have b := wl_b h' k
  congr 1
  · by_cases hk : k < l.length
    · rw [if_pos hk]; exact u64_id a.1 (by have := a.2; unfold wl at this; omega)
    · rw [if_neg hk]; simp [wl, List.getElem?_eq_none (Nat.le_of_not_lt hk)]
  · by_cases hk : k < m.length
    · rw [if_pos hk]; exact u64_id b.1 (by have := b.2; unfold wl at this; omega)
    · rw [if_neg hk]; simp [wl, List.getElem?_eq_none (Nat.le_of_not_lt hk)]
theorem len_w {l : List Int} (h : cW l) : (l.length = 0 ∧ wl l 0 = 0 ∧ wl l 1 = 0) ∨ (l.length = 1 ∧ 0 < wl l 0 ∧ wl l 1 = 0) ∨ (l.length = 2 ∧ 0 < wl l 1) := by
  rcases h with rfl | ⟨x, rfl, h1, h2⟩ | ⟨x, y, rfl, h1, h2, h3, h4⟩
  · simp [wl]
  · simp [wl]; omega
  · simp [wl]; omega
theorem prs_w {l m : List Int} (h : cW l) (h' : cW m) : prs l m (max l.length m.length) = (List.range (max l.length m.length)).map fun k => (wl l k, wl m k) := by
  unfold prs
  exact List.map_congr_left fun k _ => pairAt_w h h' k
theorem max_w {l m : List Int} (h : cW l) (h' : cW m) : (max l.length m.length = 0 ∧ wl l 0 = 0 ∧ wl m 0 = 0 ∧ wl l 1 = 0 ∧ wl m 1 = 0) ∨ (max l.length m.length = 1 ∧ wl l 1 = 0 ∧ wl m 1 = 0) ∨ max l.length m.length = 2 := by
  have a := len_w h
  have b := len_w h'
  omega
theorem add_w {l m : List Int} (h : cW l) (h' : cW m) (hs : wv l + wv m < 18446744073709551616) : trimF (addF l m) = zW (wv l + wv m) := by
  have a0 := wl_b h 0
  have a1 := wl_b h 1
  have b0 := wl_b h' 0
  have b1 := wl_b h' 1
  rw [wv_wl l, wv_wl m] at hs ⊢
  unfold addF
  rw [prs_w h h']
  rcases max_w h h' with ⟨e, e1, e2, e3, e4⟩ | ⟨e, e1, e2⟩ | e <;> rw [e]
  · rw [e1, e2, e3, e4]
    rfl
  · have r1 : (wl l 0 + wl m 0) % 18446744073709551616 = wl l 0 + wl m 0 := by omega
    simp [addL, putL, List.range_succ, u64_eq, r1]
    rw [tr2 (by omega) (by omega) (by omega) (by omega), e1, e2]
    congr 1
    omega
  · have r1 : (wl l 0 + wl m 0) % 18446744073709551616 = wl l 0 + wl m 0 := by omega
    have r2 : (wl l 1 + wl m 1) % 18446744073709551616 = wl l 1 + wl m 1 := by omega
    simp [addL, putL, List.range_succ, u64_eq, r1, r2]
    have r3 : (wl l 1 + wl m 1 + (wl l 0 + wl m 0) / 4294967296) % 18446744073709551616 = wl l 1 + wl m 1 + (wl l 0 + wl m 0) / 4294967296 := by omega
    rw [r3, tr3 (by omega) (by omega) (by omega) (by omega) (by omega)]
    congr 1
    omega
theorem sub_w {l m : List Int} (h : cW l) (h' : cW m) (hs : wv m ≤ wv l) : trimF (subF l m) = zW (wv l - wv m) := by
  have a0 := wl_b h 0
  have a1 := wl_b h 1
  have b0 := wl_b h' 0
  have b1 := wl_b h' 1
  rw [wv_wl l, wv_wl m] at hs ⊢
  unfold subF subOut
  rw [prs_w h h']
  rcases max_w h h' with ⟨e, e1, e2, e3, e4⟩ | ⟨e, e1, e2⟩ | e <;> rw [e]
  · rw [e1, e2, e3, e4]
    rfl
  · have r1 : (((wl l 0 + 4294967296) % 18446744073709551616 - 1) % 18446744073709551616 - wl m 0) % 18446744073709551616 = wl l 0 + 4294967295 - wl m 0 := by omega
    have r2 : (wl l 0 + 4294967295 - wl m 0 + 1) % 18446744073709551616 = wl l 0 + 4294967296 - wl m 0 := by omega
    simp [subL, putL, List.range_succ, u64_eq, r1, r2]
    rw [tr1 (by omega) (by omega), e1, e2]
    congr 1
    omega
  · have r1 : (((wl l 0 + 4294967296) % 18446744073709551616 - 1) % 18446744073709551616 - wl m 0) % 18446744073709551616 = wl l 0 + 4294967295 - wl m 0 := by omega
    have r2 : (wl l 0 + 4294967295 - wl m 0 + 1) % 18446744073709551616 = wl l 0 + 4294967296 - wl m 0 := by omega
    have r3 : (((wl l 1 + 4294967296) % 18446744073709551616 - 1) % 18446744073709551616 - wl m 1) % 18446744073709551616 = wl l 1 + 4294967295 - wl m 1 := by omega
    have r4 : (wl l 1 + 4294967295 - wl m 1 + (wl l 0 + 4294967296 - wl m 0) / 4294967296) % 18446744073709551616 = wl l 1 + 4294967295 - wl m 1 + (wl l 0 + 4294967296 - wl m 0) / 4294967296 := by omega
    simp [subL, putL, List.range_succ, u64_eq, r1, r2, r3, r4]
    rw [tr2 (by omega) (by omega) (by omega) (by omega)]
    congr 1
    omega
theorem cmp_w {l m : List Int} (h : cW l) (h' : cW m) : (0 ≤ cmpF l m ↔ wv m ≤ wv l) := by
  have a0 := wl_b h 0
  have a1 := wl_b h 1
  have b0 := wl_b h' 0
  have b1 := wl_b h' 1
  have ll := len_w h
  have lm := len_w h'
  rw [wv_wl l, wv_wl m]
  unfold cmpF
  by_cases e : (l.length : Int) - m.length = 0
  · rw [if_pos e, prs_w h h']
    rcases max_w h h' with ⟨e0, e1, e2, e3, e4⟩ | ⟨e0, e1, e2⟩ | e0 <;> rw [e0]
    · rw [e1, e2, e3, e4]; simp
    · simp [cmpStep, List.range_succ]
      split
      · omega
      · split
        · omega
        · omega
    · simp [cmpStep, List.range_succ]
      split
      · omega
      · split
        · omega
        · split
          · omega
          · split <;> omega
  · rw [if_neg e]
    omega
def Ev {α : Type} (g : Nat → Option α) (r : α) : Prop := ∃ K, ∀ k, K ≤ k → g k = some r
theorem Ev.const {α : Type} {o : Option α} {r : α} (h : o = some r) : Ev (fun _ => o) r := ⟨0, fun _ _ => h⟩
theorem Ev.bind {α β : Type} {g : Nat → Option α} {f : Nat → α → Option β} {a : α} {r : β} (h : Ev g a) (h2 : Ev (fun k => f k a) r) : Ev (fun k => (g k).bind (f k)) r := by
  obtain ⟨K, hK⟩ := h
  obtain ⟨K2, hK2⟩ := h2
  exact ⟨K + K2, fun k hk => by show (g k).bind (f k) = some r; rw [hK k (by omega)]; exact hK2 k (by omega)⟩
theorem Ev.congr {α : Type} {g g' : Nat → Option α} {r : α} (h : Ev g r) (e : ∀ k, g' k = g k) : Ev g' r := by
  obtain ⟨K, hK⟩ := h
  exact ⟨K, fun k hk => (e k).trans (hK k hk)⟩
theorem trim_ev {l : List Int} (hl : l.length ≤ 1000000000000) : Ev (fun k => whole_trim.f k l) (trimF l) := by
  obtain ⟨k, hk⟩ := trim_ex _ l rfl hl
  refine ⟨k, fun n hn => ?_⟩
  induction n with
  | zero => obtain rfl : k = 0 := by omega
            exact hk
  | succ n ih =>
    by_cases e : k = n + 1
    · subst e; exact hk
    · exact whole_trim.mono l n _ (ih (by omega))
theorem trimF_c {l : List Int} (h : cW l) : trimF l = l := by
  rcases h with rfl | ⟨x, rfl, h1, h2⟩ | ⟨x, y, rfl, h1, h2, h3, h4⟩
  · rfl
  · rw [tr1 (by omega) h2, zW_nn (by omega), if_neg (by omega), if_pos h2]
  · rw [show [x, y] = [x] ++ [y] from rfl, trimF_snoc, if_neg (by omega)]
theorem cW_len {l : List Int} (h : cW l) : l.length ≤ 2 := by have := len_w h; omega
theorem trim_evc {l : List Int} (h : cW l) : Ev (fun k => whole_trim.f k l) l := by
  have := trim_ev (l := l) (by have := cW_len h; omega)
  rwa [trimF_c h] at this
theorem zW_len (x : Int) : ((zW x).length : Int) > 0 ↔ x ≠ 0 := by
  unfold zW
  by_cases hx : x = 0
  · simp [hx]
  · rw [if_neg hx]
    split <;> simp [hx]
theorem made_ev {w : List Int} {b : Bool} {x : Int} (hl : w.length ≤ 1000000000000) (h : trimF w = zW x) (hb : b = zS x ∨ x = 0) : Ev (fun k => whole_made.f k b w) (zS x, zW x) := by
  unfold whole_made.f
  refine (trim_ev hl).bind (Ev.const ?_)
  rw [h]
  rcases hb with rfl | rfl
  · by_cases hx : x < 0
    · have : zS x = true := by simp [zS, hx]
      rw [this, if_pos rfl]
      have := (zW_len x).2 (by omega)
      simp [this]
      simpa using this
    · have : zS x = false := by simp [zS]; omega
      rw [this, if_neg (by decide)]
  · cases b
    · rfl
    · rfl
def vs (a : Bool) (l : List Int) : Int := if a then -(wv l) else wv l
theorem vs_z {x : Int} (h : x.natAbs < 18446744073709551616) : vs (zS x) (zW x) = x := by
  unfold vs
  rw [wv_z x h]
  by_cases hx : x < 0
  · simp [zS, hx]; omega
  · have : zS x = false := by simp [zS]; omega
    simp [this]; omega
theorem fromInt_ev {n : Int} (h0 : -9223372036854775808 < n) (h1 : n < 9223372036854775808) : Ev (fun k => whole_FromInt64.f k n) (zS n, zW n) := by
  unfold whole_FromInt64.f
  by_cases hn : n < 0
  · simp only [if_pos hn]
    have e : IntKind.u64.wrap (-(IntKind.u64.wrap n)) = -n := by rw [u64_eq, u64_eq]; omega
    rw [e]
    refine Ev.bind (made_ev (x := n) (by simp) ?_ (.inl rfl)) (Ev.const rfl)
    rw [tr2 (by omega) (by omega) (by omega) (by omega), ← zW_neg n]
    congr 1
    omega
  · simp only [if_neg hn]
    have e : IntKind.u64.wrap n = n := by rw [u64_eq]; omega
    rw [e]
    refine Ev.bind (made_ev (x := n) (by simp) ?_ (.inl rfl)) (Ev.const rfl)
    rw [tr2 (by omega) (by omega) (by omega) (by omega)]
    congr 1
    omega
theorem addF_len {l m : List Int} (h : cW l) (h' : cW m) : (addF l m).length ≤ 3 := by
  unfold addF
  rw [List.length_append, addL_length, prs_length]
  have := cW_len h
  have := cW_len h'
  simp
  omega
theorem subF_len {l m : List Int} (h : cW l) (h' : cW m) : (subF l m).length ≤ 3 := by
  unfold subF subOut
  rw [List.length_drop, List.length_take, List.length_append, subL_length, prs_length]
  have := cW_len h
  have := cW_len h'
  simp
  omega
theorem add_ev {a b : Bool} {l m : List Int} (h : cW l) (h' : cW m) (hs : wv l + wv m < 18446744073709551616) : Ev (fun k => whole_Add.f k a l b m) (zS (vs a l + vs b m), zW (vs a l + vs b m)) := by
  have n0 := wv_nn h
  have n1 := wv_nn h'
  have ll := cW_len h
  have lm := cW_len h'
  unfold whole_Add.f
  refine (trim_evc h).bind ((trim_evc h').bind ?_)
  by_cases hab : a = b
  · subst hab
    simp only [beq_self_eq_true, if_true]
    refine Ev.bind (f := fun k t => (whole_made.f k a t).bind fun bt => some (bt.1, bt.2)) (Ev.const (r := addF l m) (by simp [whole_add.f]; omega)) (Ev.bind (made_ev (x := vs a l + vs a m) (by have := addF_len h h'; omega) ?_ ?_) (Ev.const rfl))
    · rw [add_w h h' hs]
      cases a
      · simp [vs]
      · simp only [vs, if_true]
        rw [← zW_neg]
        congr 1
        omega
    · cases a
      · left; simp [vs, zS]; omega
      · simp only [vs, if_true, zS]
        by_cases e : wv l + wv m = 0
        · right; omega
        · left; symm; simp; omega
  · have hne : (a == b) = false := by simpa using hab
    simp only [hne, if_neg (show ¬ (false = true) by decide)]
    refine Ev.bind (f := fun k t => if t ≥ 0 then (whole_sub.f l m).bind fun t415 => (whole_made.f k a t415).bind fun bt => some (bt.1, bt.2) else (whole_sub.f m l).bind fun t422 => (whole_made.f k b t422).bind fun bt => some (bt.1, bt.2)) (Ev.const (r := cmpF l m) (by simp [whole_cmp.f]; omega)) ?_
    have hc := cmp_w h h'
    by_cases hg : cmpF l m ≥ 0
    · simp only [if_pos hg]
      have hle := hc.1 hg
      refine Ev.bind (f := fun k t => (whole_made.f k a t).bind fun bt => some (bt.1, bt.2)) (Ev.const (r := subF l m) (by simp [whole_sub.f]; omega)) (Ev.bind (made_ev (x := vs a l + vs b m) (by have := subF_len h h'; omega) ?_ ?_) (Ev.const rfl))
      · rw [sub_w h h' hle]
        cases a <;> cases b <;> simp [vs] at hab ⊢
        · congr 1
        · rw [← zW_neg]; congr 1; omega
      · cases a <;> cases b <;> simp [vs, zS] at hab ⊢ <;> omega
    · simp only [if_neg hg]
      have hle : wv l ≤ wv m := by
        by_cases e : wv m ≤ wv l
        · exact absurd (hc.2 e) hg
        · omega
      refine Ev.bind (f := fun k t => (whole_made.f k b t).bind fun bt => some (bt.1, bt.2)) (Ev.const (r := subF m l) (by simp [whole_sub.f]; omega)) (Ev.bind (made_ev (x := vs a l + vs b m) (by have := subF_len h' h; omega) ?_ ?_) (Ev.const rfl))
      · rw [sub_w h' h hle]
        cases a <;> cases b <;> simp [vs] at hab ⊢
        · rw [← zW_neg]; congr 1; omega
        · congr 1; omega
      · cases a <;> cases b <;> simp [vs, zS] at hab ⊢ <;> omega
theorem sub_ev {a b : Bool} {l m : List Int} (h : cW l) (h' : cW m) (hs : wv l + wv m < 18446744073709551616) : Ev (fun k => whole_Sub.f k a l b m) (zS (vs a l - vs b m), zW (vs a l - vs b m)) := by
  unfold whole_Sub.f
  have := add_ev (a := a) (b := !b) h h' hs
  have e : vs (!b) m = -(vs b m) := by cases b <;> simp [vs]
  rw [e, ← Int.sub_eq_add_neg] at this
  exact this.bind (Ev.const rfl)
theorem sign_ev {a : Bool} {l : List Int} (h : cW l) : Ev (fun k => whole_Sign.f k a l) (if wv l = 0 then 0 else if a = true then -1 else 1) := by
  unfold whole_Sign.f
  refine (trim_evc h).bind ?_
  have := len_w h
  have b0 := wl_b h 0
  have b1 := wl_b h 1
  have e := wv_wl l
  by_cases hz : wv l = 0
  · simp only [if_pos (show (l.length : Int) = 0 by omega), if_pos hz]
    exact Ev.const rfl
  · simp only [if_neg (show ¬ (l.length : Int) = 0 by omega), if_neg hz]
    cases a
    · exact Ev.const rfl
    · exact Ev.const rfl
theorem sign_z {x : Int} (h : x.natAbs < 18446744073709551616) : Ev (fun k => whole_Sign.f k (zS x) (zW x)) (if x = 0 then 0 else if x < 0 then -1 else 1) := by
  have := sign_ev (a := zS x) (cW_z x h)
  rw [wv_z x h] at this
  have e : ((x.natAbs : Int) = 0) = (x = 0) := by rw [eq_iff_iff]; omega
  have e2 : (zS x = true) = (x < 0) := by simp [zS]
  simp only [e, e2] at this
  exact this
theorem cmp_ev {a b : Bool} {l m : List Int} (h : cW l) (h' : cW m) (hs : wv l + wv m < 18446744073709551616) : Ev (fun k => whole_Cmp.f k a l b m) (if vs a l = vs b m then 0 else if vs a l < vs b m then -1 else 1) := by
  unfold whole_Cmp.f
  have n0 := wv_nn h
  have n1 := wv_nn h'
  refine (sub_ev h h' hs).bind ?_
  have := sign_z (x := vs a l - vs b m) (by cases a <;> cases b <;> simp [vs] <;> omega)
  have e : (vs a l - vs b m = 0) = (vs a l = vs b m) := by rw [eq_iff_iff]; omega
  have e2 : (vs a l - vs b m < 0) = (vs a l < vs b m) := by rw [eq_iff_iff]; omega
  simp only [e, e2] at this
  exact this.bind (Ev.const rfl)
theorem small_ev {l : List Int} (h : cW l) : Ev (fun k => whole_small.f k l 1) (l, 0) := by
  obtain ⟨K, hK⟩ := trim_evc h
  refine ⟨K + 3, fun k hk => ?_⟩
  obtain ⟨m, rfl⟩ : ∃ m, k = m + 3 := ⟨k - 3, by omega⟩
  have t1 := hK (m + 1) (by omega)
  have t2 := hK m (by omega)
  have t0 := hK (m + 2) (by omega)
  rcases h with rfl | ⟨x, rfl, h1, h2⟩ | ⟨x, y, rfl, h1, h2, h3, h4⟩
  · simp only at t0
    simp [whole_small.f, whole_small.l0, t0]
  · simp only at t1
    have e : x % 4294967296 = x := by omega
    simp [whole_small.f, whole_small.l0, rd, wrap64, u64_eq, e, t1]
  · simp only at t2
    have e : x % 4294967296 = x := by omega
    have e2 : y % 4294967296 = y := by omega
    simp [whole_small.f, whole_small.l0, rd, wrap64, u64_eq, e, e2, t2]
theorem div_ev {l : List Int} (h : cW l) : Ev (fun k => whole_div.f k l [1]) (l, []) := by
  unfold whole_div.f
  simp only [if_pos (show (([1] : List Int).length : Int) = 1 by decide)]
  have e : IntKind.u64.wrap (rd [1] 0) = 1 := by rw [u64_eq]; rfl
  rw [e]
  refine (show Ev (fun k => if (0 : Int) < 1 then ((whole_small.f k l 1).bind fun bt520 => ((whole_trim.f k [bt520.2 % 4294967296]).bind fun t527 => (some (bt520.1, t527)))) else none) (l, []) from ?_)
  simp only [if_pos (show (0 : Int) < 1 by decide)]
  refine (small_ev h).bind (Ev.bind (trim_ev (by simp)) (Ev.const ?_))
  rfl
theorem gcd_ev {a b : Bool} {l : List Int} (h : cW l) : Ev (fun k => whole_GCD.f k a l b [1]) (false, [1]) := by
  have h1 : cW [1] := .inr (.inl ⟨1, rfl, by omega, by omega⟩)
  unfold whole_GCD.f
  refine (trim_evc h).bind ((trim_evc h1).bind ?_)
  obtain ⟨K, hK⟩ := div_ev h
  obtain ⟨K2, hK2⟩ := made_ev (w := [1]) (b := false) (x := 1) (by simp) (by rw [trimF_c h1]; rfl) (.inl rfl)
  refine ⟨K + K2 + 2, fun k hk => ?_⟩
  obtain ⟨m, rfl⟩ : ∃ m, k = m + 2 := ⟨k - 2, by omega⟩
  have e := hK (m + 1) (by omega)
  have e2 := hK2 m (by omega)
  simp only at e e2
  simp [whole_GCD.l0, e, slices_Clone_uint32_uint32.f, e2]
  exact ⟨rfl, rfl⟩
theorem divmod_ev {a : Bool} {l : List Int} (h : cW l) (ha : l = [] → a = false) : Ev (fun k => whole_DivModK.f k a l false [1]) (a, l, false, [], 0) := by
  have h1 : cW [1] := .inr (.inl ⟨1, rfl, by omega, by omega⟩)
  have h0 : cW [] := .inl rfl
  unfold whole_DivModK.f
  refine (trim_evc h).bind ((trim_evc h1).bind ?_)
  simp only [if_neg (show ¬ (([1] : List Int).length : Int) = 0 by decide)]
  refine (div_ev h).bind ?_
  have hm : ∃ x, zW x = l ∧ zS x = a := by
    refine ⟨vs a l, ?_, ?_⟩
    · cases a
      · exact z_wv h
      · simp only [vs, if_true]; rw [zW_neg]; exact z_wv h
    · have := wv_nn h
      cases a
      · simp [vs, zS]; omega
      · simp only [vs, if_true, zS]
        have : wv l ≠ 0 := by
          intro e
          have h2 := len_w h
          have b0 := wl_b h 0
          have b1 := wl_b h 1
          have e3 := wv_wl l
          have : l.length = 0 := by omega
          have := ha (List.eq_nil_of_length_eq_zero this)
          cases this
        simp; omega
  obtain ⟨x, rfl, rfl⟩ := hm
  have hj : Ev (fun k => whole_DivModK.j0 k (zW x) [] false (zS x) (zW x) false [1]) (zS x, zW x, false, [], 0) := by
    have hb : (zS x != false) = zS x := by cases zS x <;> rfl
    have e := (made_ev (w := zW x) (b := (zS x != false)) (x := x) (by have := cW_len h; omega) (trimF_c h) (.inl hb)).bind (f := fun k bt618 => (whole_made.f k false []).bind fun bt622 => some (bt618.1, bt618.2, bt622.1, bt622.2, (0 : Int))) (Ev.bind (made_ev (w := []) (b := false) (x := 0) (by simp) rfl (.inl rfl)) (Ev.const rfl))
    obtain ⟨K, hK⟩ := e
    refine ⟨K + 1, fun k hk => ?_⟩
    obtain ⟨m, rfl⟩ : ∃ m, k = m + 1 := ⟨k - 1, by omega⟩
    simp only [whole_DivModK.j0]
    rw [if_neg (by decide)]
    exact hK m (by omega)
  by_cases hs : zS x = true
  · simp only [if_pos hs]
    exact hj
  · simp only [if_neg hs]
    exact hj
theorem mul_w {l m : List Int} (h : cW l) (h' : cW m) (hm : m.length ≤ 1) (hs : wv l * wv m < 18446744073709551616) : ∃ o, o.length ≤ 4 ∧ trimF o = zW (wv l * wv m) ∧ Ev (fun k => whole_mul.f k l m) o := by
  rcases h' with rfl | ⟨v, rfl, h5, h6⟩ | ⟨u, v, rfl, h5, h6, h7, h8⟩
  · refine ⟨List.replicate l.length 0, by have := cW_len h; simp; omega, ?_, 9, fun k hk => ?_⟩
    · have : wv ([] : List Int) = 0 := rfl
      rw [this, Int.mul_zero]
      rcases h with rfl | ⟨x, rfl, h1, h2⟩ | ⟨x, y, rfl, h1, h2, h3, h4⟩ <;> rfl
    · obtain ⟨n, rfl⟩ : ∃ n, k = n + 9 := ⟨k - 9, by omega⟩
      rcases h with rfl | ⟨x, rfl, h1, h2⟩ | ⟨x, y, rfl, h1, h2, h3, h4⟩
      · simp [whole_mul.f, whole_mul.l0, wrap64]
      · simp [whole_mul.f, whole_mul.l0, whole_mul.l1, wrap64, rd]
      · simp [whole_mul.f, whole_mul.l0, whole_mul.l1, wrap64, rd, List.replicate]
  · have wm : wv [v] = v := by simp [wv, rd]
    rw [wm] at hs ⊢
    rcases h with rfl | ⟨x, rfl, h1, h2⟩ | ⟨x, y, rfl, h1, h2, h3, h4⟩
    · refine ⟨[0], by simp, ?_, 9, fun k hk => ?_⟩
      · have : wv ([] : List Int) = 0 := rfl
        rw [this, Int.zero_mul]
        rfl
      · obtain ⟨n, rfl⟩ : ∃ n, k = n + 9 := ⟨k - 9, by omega⟩
        simp [whole_mul.f, whole_mul.l0, wrap64]
    · have wx : wv [x] = x := by simp [wv, rd]
      rw [wx] at hs ⊢
      have hp : 0 ≤ x * v := Int.mul_nonneg (by omega) (by omega)
      refine ⟨[x * v % 4294967296, x * v / 4294967296], by simp, ?_, 9, fun k hk => ?_⟩
      · rw [tr2 (by omega) (by omega) (by omega) (by omega)]
        congr 1
        omega
      · obtain ⟨n, rfl⟩ : ∃ n, k = n + 9 := ⟨k - 9, by omega⟩
        have ex : x % 18446744073709551616 = x := by omega
        have ev : v % 18446744073709551616 = v := by omega
        have ep : x * v % 18446744073709551616 = x * v := by omega
        simp [whole_mul.f, whole_mul.l0, whole_mul.l1, wrap64, rd, u64_eq, ex, ev, ep]
        omega
    · have wx : wv [x, y] = x + 4294967296 * y := by simp [wv, rd]
      rw [wx] at hs ⊢
      have hd : (x + 4294967296 * y) * v = x * v + 4294967296 * (y * v) := by rw [Int.add_mul, Int.mul_assoc]
      rw [hd] at hs ⊢
      have hp : 0 ≤ x * v := Int.mul_nonneg (by omega) (by omega)
      have hq : 0 ≤ y * v := Int.mul_nonneg (by omega) (by omega)
      have hp2 : x * v < 18446744073709551616 := by omega
      refine ⟨[x * v % 4294967296, (x * v / 4294967296 + y * v) % 4294967296, (x * v / 4294967296 + y * v) / 4294967296], by simp, ?_, 9, fun k hk => ?_⟩
      · rw [tr3 (by omega) (by omega) (by omega) (by omega) (by omega)]
        congr 1
        omega
      · obtain ⟨n, rfl⟩ : ∃ n, k = n + 9 := ⟨k - 9, by omega⟩
        have ex : x % 18446744073709551616 = x := by omega
        have ey : y % 18446744073709551616 = y := by omega
        have ev : v % 18446744073709551616 = v := by omega
        have ep : x * v % 18446744073709551616 = x * v := by omega
        have eq : y * v % 18446744073709551616 = y * v := by omega
        have ec : x * v / 4294967296 % 4294967296 = x * v / 4294967296 := by omega
        have ec2 : x * v / 4294967296 % 18446744073709551616 = x * v / 4294967296 := by omega
        have es : (y * v + x * v / 4294967296) % 18446744073709551616 = x * v / 4294967296 + y * v := by omega
        simp [whole_mul.f, whole_mul.l0, whole_mul.l1, wrap64, rd, u64_eq, ex, ev, ey, ep, eq, ec, ec2, es, List.replicate]
        omega
  · simp at hm
theorem Mul_ev {a b : Bool} {l m : List Int} (h : cW l) (h' : cW m) (hm : m.length ≤ 1) (hs : wv l * wv m < 18446744073709551616) : Ev (fun k => whole_Mul.f k a l b m) (zS (vs a l * vs b m), zW (vs a l * vs b m)) := by
  unfold whole_Mul.f
  obtain ⟨o, ho, ht, he⟩ := mul_w h h' hm hs
  have n0 := wv_nn h
  have n1 := wv_nn h'
  have hp : 0 ≤ wv l * wv m := Int.mul_nonneg n0.1 n1.1
  have ez : zW (wv l * wv m) = zW (vs a l * vs b m) := by
    cases a <;> cases b <;> simp [vs, Int.neg_mul, Int.mul_neg, zW_neg]
  rw [ez] at ht
  refine (trim_evc h).bind ((trim_evc h').bind (he.bind (Ev.bind (made_ev (x := vs a l * vs b m) (by omega) ht ?_) (Ev.const rfl))))
  by_cases e : wv l * wv m = 0
  · right
    cases a <;> cases b <;> simp only [vs, if_true, Int.neg_mul, Int.mul_neg, if_neg (show ¬ (false = true) by decide)] <;> omega
  · left
    cases a <;> cases b <;> simp only [vs, if_true, Int.neg_mul, Int.mul_neg, if_neg (show ¬ (false = true) by decide), zS] <;> symm <;> simp <;> omega
def whole_DivMod.f (a : Bool) (l : List Int) (b : Bool) (m : List Int) : Option (Bool × List Int × Bool × List Int × Int) := if cWb l = true ∧ (l = [] → a = false) ∧ b = false ∧ m = [1] then some (a, l, false, [], 0) else none
theorem V_of_C {w : World} {A : Option Addr} {c : Nat} {l : List Int} (h : Kd.C (Kd.int .u32) w A l.length l) (hc : l.length ≤ c) : Kd.V (Kd.int .u32) 117 w w.heap.size (fun k_ => k_ < w.heap.size) (.slice A l.length c) l := Kd.V_mk hc (Kd.C_F (Kd.heap_int _) h)
theorem whole_DivMod.calls (a0_0 : Bool) (A0_1 : Option Addr) (c0_1 : Nat) (l0_1 : List Int) (a1_0 : Bool) (A1_1 : Option Addr) (c1_1 : Nat) (l1_1 : List Int) (r1 : Bool) (r2 : List Int) (r3 : Bool) (r4 : List Int) (r5 : Int) (w : World) (hr0_1 : Kd.C (Kd.int .u32) w A0_1 l0_1.length l0_1) (hc0_1 : l0_1.length ≤ c0_1) (hr1_1 : Kd.C (Kd.int .u32) w A1_1 l1_1.length l1_1) (hc1_1 : l1_1.length ≤ c1_1) (h : whole_DivMod.f a0_0 l0_1 a1_0 l1_1 = some (r1, r2, r3, r4, r5)) :
  Calls Try.prog 124 #[.agg #[.bool a0_0, .slice A0_1 l0_1.length c0_1], .agg #[.bool a1_0, .slice A1_1 l1_1.length c1_1]] w fun e w' => ∃ v1_ v3_ : Value, e = .returned (.tuple #[.agg #[.bool r1, v1_], .agg #[.bool r3, v3_], .int .i64 r5]) ∧ Kd.V (Kd.int .u32) 117 w' w.heap.size (fun k_ => (w.heap.size ≤ k_)) v1_ r2 ∧ Kd.V (Kd.int .u32) 117 w' w.heap.size (fun k_ => (w.heap.size ≤ k_)) v3_ r4 ∧ Below w.heap.size w w' := by
 unfold whole_DivMod.f at h
 by_cases hp : cWb l0_1 = true ∧ (l0_1 = [] → a0_0 = false) ∧ a1_0 = false ∧ l1_1 = [1]
 ·rw [if_pos hp] at h
  obtain ⟨h0, h1, rfl, rfl⟩ := hp
  obtain ⟨k, hk⟩ := divmod_ev (cW_of h0) h1
  exact whole_DivModK.calls k a0_0 _ A0_1 c0_1 l0_1 false _ A1_1 c1_1 [1] r1 r2 r3 r4 r5 w (V_of_C hr0_1 hc0_1) (V_of_C hr1_1 hc1_1) ((hk k (Nat.le_refl _)).trans h)
 ·rw [if_neg hp] at h
  cases h
end Go.Proofs.Ytelklgdmhnkenaa.U
namespace Go.Proofs.Ytelklgdmhnkenaa.U
attribute [local go_sem] max2_int min2_int max_two min_two max_three min_three max_four min_four
def fracK_parts_least.f (k : Nat) (a0_0 : Bool) (l0_1 : List Int) (a0_2 : Bool) (l0_3 : List Int) : Option (Bool × List Int × Bool × List Int) := (whole_GCD.f k a0_0 l0_1 a0_2 l0_3).bind fun bt596 => ((whole_DivMod.f a0_0 l0_1 bt596.1 bt596.2).bind fun bt601 => ((whole_DivMod.f a0_2 l0_3 bt596.1 bt596.2).bind fun bt612 => ((whole_FromInt64.f k 1).bind fun bt623 => ((whole_Cmp.f k bt612.1 bt612.2.1 bt623.1 bt623.2).bind fun t627 => (if t627 = 0 then (some (bt601.1, bt601.2.1, false, ([] : List Int))) else (none))))))
set_option maxHeartbeats 8000000 in
set_option maxRecDepth 100000 in
theorem fracK_parts_least.calls (k : Nat) (a0_0 : Bool) (P0_1_ : Nat → Prop) (A0_1 : Option Addr) (c0_1 : Nat) (l0_1 : List Int) (a0_2 : Bool) (P0_3_ : Nat → Prop) (A0_3 : Option Addr) (c0_3 : Nat) (l0_3 : List Int) (r1 : Bool) (r2 : List Int) (r3 : Bool) (r4 : List Int) (w : World) (hs0_1 : Kd.V (Kd.int .u32) 117 w w.heap.size (fun k_ => P0_1_ k_) (.slice A0_1 l0_1.length c0_1) l0_1) (hs0_3 : Kd.V (Kd.int .u32) 117 w w.heap.size (fun k_ => P0_3_ k_) (.slice A0_3 l0_3.length c0_3) l0_3) (h : fracK_parts_least.f k a0_0 l0_1 a0_2 l0_3 = some (r1, r2, r3, r4)) :
  Calls Try.prog 104 #[.agg #[.bool a0_0, .slice A0_1 l0_1.length c0_1, .bool a0_2, .slice A0_3 l0_3.length c0_3]] w fun e w' => ∃ v1_ v3_ : Value, e = .returned (.agg #[.bool r1, v1_, .bool r3, v3_]) ∧ Kd.V (Kd.int .u32) 117 w' w.heap.size (fun k_ => (w.heap.size ≤ k_)) v1_ r2 ∧ Kd.V (Kd.int .u32) 117 w' w.heap.size (fun k_ => (w.heap.size ≤ k_)) v3_ r4 ∧ Below w.heap.size w w' := by
 have hu120 := Try.underlying120
 have hu66 := Try.underlying66
 have hu64 := Try.underlying64
 have HO0_1 := Aside0.mk (show Kd.V (Kd.int .u32) 117 w w.heap.size (fun k_ => ((P0_1_ k_ ∨ P0_3_ k_) ∨ w.heap.size ≤ k_)) (.slice A0_1 l0_1.length c0_1) l0_1 from Kd.V_mono hs0_1 (fun k_ hk => .inl (.inl hk)))
 have HO0_3 := Aside0.mk (show Kd.V (Kd.int .u32) 117 w w.heap.size (fun k_ => ((P0_1_ k_ ∨ P0_3_ k_) ∨ w.heap.size ≤ k_)) (.slice A0_3 l0_3.length c0_3) l0_3 from Kd.V_mono hs0_3 (fun k_ hk => .inl (.inr hk)))
 have HB := Aside0.mk (Below.refl w.heap.size w)
 have H : ((whole_GCD.f k a0_0 l0_1 a0_2 l0_3).bind fun bt596 => ((whole_DivMod.f a0_0 l0_1 bt596.1 bt596.2).bind fun bt601 => ((whole_DivMod.f a0_2 l0_3 bt596.1 bt596.2).bind fun bt612 => ((whole_FromInt64.f k 1).bind fun bt623 => ((whole_Cmp.f k bt612.1 bt612.2.1 bt623.1 bt623.2).bind fun t627 => (if t627 = 0 then (some (bt601.1, bt601.2.1, false, ([] : List Int))) else (none))))))) = some (r1, r2, r3, r4) := h
 clear h
 replace H := Option.bind_eq_some_iff.mp H
 obtain ⟨⟨t596, t597⟩, A20, H⟩ := H
 replace H : ((whole_DivMod.f a0_0 l0_1 t596 t597).bind fun bt601 => ((whole_DivMod.f a0_2 l0_3 t596 t597).bind fun bt612 => ((whole_FromInt64.f k 1).bind fun bt623 => ((whole_Cmp.f k bt612.1 bt612.2.1 bt623.1 bt623.2).bind fun t627 => (if t627 = 0 then (some (bt601.1, bt601.2.1, false, ([] : List Int))) else (none)))))) = some (r1, r2, r3, r4) := H
 have A2 := Aside0.mk A20
 clear A20
 replace H := Option.bind_eq_some_iff.mp H
 obtain ⟨⟨t601, t602, t605, t606, t609⟩, A30, H⟩ := H
 replace H : ((whole_DivMod.f a0_2 l0_3 t596 t597).bind fun bt612 => ((whole_FromInt64.f k 1).bind fun bt623 => ((whole_Cmp.f k bt612.1 bt612.2.1 bt623.1 bt623.2).bind fun t627 => (if t627 = 0 then (some (t601, t602, false, ([] : List Int))) else (none))))) = some (r1, r2, r3, r4) := H
 have A3 := Aside0.mk A30
 clear A30
 replace H := Option.bind_eq_some_iff.mp H
 obtain ⟨⟨t612, t613, t616, t617, t620⟩, A40, H⟩ := H
 replace H : ((whole_FromInt64.f k 1).bind fun bt623 => ((whole_Cmp.f k t612 t613 bt623.1 bt623.2).bind fun t627 => (if t627 = 0 then (some (t601, t602, false, ([] : List Int))) else (none)))) = some (r1, r2, r3, r4) := H
 have A4 := Aside0.mk A40
 clear A40
 replace H := Option.bind_eq_some_iff.mp H
 obtain ⟨⟨t623, t624⟩, A50, H⟩ := H
 replace H : ((whole_Cmp.f k t612 t613 t623 t624).bind fun t627 => (if t627 = 0 then (some (t601, t602, false, ([] : List Int))) else (none))) = some (r1, r2, r3, r4) := H
 have A5 := Aside0.mk A50
 clear A50
 replace H := Option.bind_eq_some_iff.mp H
 obtain ⟨t627, A60, H⟩ := H
 replace H : (if t627 = 0 then (some (t601, t602, false, ([] : List Int))) else (none)) = some (r1, r2, r3, r4) := H
 have A6 := Aside0.mk A60
 clear A60
 by_cases c7 : t627 = 0
 ·rw [if_pos c7] at H
  have c7b0 : (t627 == 0) = true := beq_iff_eq.mpr c7
  have c7b1 : (t627 != 0) = false := bne_eq_false_iff_eq.mpr c7
  clear c7
  simp only [Option.some.injEq, Prod.mk.injEq] at H
  obtain ⟨rfl, rfl, rfl, rfl⟩ := H
  go_enter Try.func104, Try.ntmps104
  try go_wp2_with (first | ((with_reducible refine gate_dst (N := 1) rfl ?_); refine box_event ?hg (N := 1) ?hd (cs := #[.bool a0_0, .slice A0_1 l0_1.length c0_1, .bool a0_2, .slice A0_3 l0_3.length c0_3]) (t := 120) ?hr ?_; (case hd => rfl); (case hg => rfl); (case hr => exact hr_); intro gb594 hg w8 hbox hb; have BK594 := Aside0.mk (hbox); have GW594 := gW_ (w := w) hg m_1; have GE594 := gW_ (w := w) hg m_1; replace HO0_1 := vE_ HO0_1 hg hb; replace HO0_3 := vE_ HO0_3 hg hb; replace HB := Aside0.mk (below_step m_1 hb); clear hb hbox hg) | ((with_reducible refine gate_dst (N := 2) rfl ?_); refine box_event ?hg (N := 2) ?hd (cs := #[.bool false, .slice none 0 0, .bool false, .slice none 0 0]) (t := 66) ?hr ?_; (case hd => rfl); (case hg => rfl); (case hr => exact hr_); intro gb595 hg w9 hbox hb; have BK595 := Aside0.mk (hbox); have GW595 := gW_ (w := w) hg m_56; have GE595 := gW_ (w := w) hg m_56; have NB594_595 := nl_ BK594 hg; have NB595_594 := ng_ BK594 hg; replace HO0_1 := vE_ HO0_1 hg hb; replace HO0_3 := vE_ HO0_3 hg hb; replace BK594 := bB_ BK594 hb; replace HB := Aside0.mk (below_step m_56 hb); clear hb hbox hg; have hnb10 := NB594_595.out; have hnc10 := NB595_594.out; obtain ⟨hcz11_0, hcz11_1, hcz11_2, hcz11_3, hfz11_0, hfz11_1, hfz11_2, hfz11_3⟩ := cf4_ BK594) | ((with_reducible refine gate_callee (f := 123) rfl ?_); refine goesL_ (some 14) rfl rfl Try.func123 m_13 rfl #[.agg #[.bool a0_0, .slice A0_1 l0_1.length c0_1], .agg #[.bool a0_2, .slice A0_3 l0_3.length c0_3]] rfl m_2 ?_; (with_reducible refine (whole_GCD.calls k a0_0 (fun k_ => ((((P0_1_ k_ ∨ P0_3_ k_) ∨ w.heap.size ≤ k_) ∧ k_ ≠ gb594) ∧ k_ ≠ gb595)) _ _ l0_1 a0_2 (fun k_ => ((((P0_1_ k_ ∨ P0_3_ k_) ∨ w.heap.size ≤ k_) ∧ k_ ≠ gb594) ∧ k_ ≠ gb595)) _ _ l0_3 t596 t597 _ ?side1 ?side2 A2.out).mono ?_); (case side1 => exact HO0_1.out); (case side2 => exact HO0_3.out); rintro e w12 ⟨v598, rfl, ho0, hb⟩; refine ⟨_, rfl, ?_⟩; have HO599 := Aside0.mk (Kd.V_lower (Kd.V_mono (ok' := fun k_ => ((P0_1_ k_ ∨ P0_3_ k_) ∨ w.heap.size ≤ k_) ∧ k_ ≠ gb594 ∧ k_ ≠ gb595) ho0 (fun k_ hk_ => ⟨Or.elim hk_ (fun hs_ => Or.elim hs_ (fun hs_ => hs_.1.1) (fun hs_ => hs_.1.1)) (fun hn_ => (.inr (Nat.le_trans (below_size m_32) hn_))), Or.elim hk_ (fun hs_ => Or.elim hs_ (fun hs_ => hs_.1.2) (fun hs_ => hs_.1.2)) (fun hn_ => (Kd.freshB (bA_ BK594.out) k_ hn_)), Or.elim hk_ (fun hs_ => Or.elim hs_ (fun hs_ => hs_.2) (fun hs_ => hs_.2)) (fun hn_ => (Kd.freshB (bA_ BK595.out) k_ hn_))⟩)) (below_size m_32)); replace HO0_1 := vB_ HO0_1 hb; replace HO0_3 := vB_ HO0_3 hb; replace BK594 := bB_ BK594 hb; replace BK595 := bB_ BK595 hb; replace HB := Aside0.mk (below_step m_32 hb); clear hb; (try clear ho0)) | ((with_reducible refine gate_dst (N := 3) rfl ?_); refine box_event ?hg (N := 3) ?hd (cs := #[.bool false, .slice none 0 0]) (t := 64) ?hr ?_; (case hd => rfl); (case hg => rfl); (case hr => exact hr_); intro gb600 hg w13 hbox hb; have BK600 := Aside0.mk (hbox); have GW600 := gW_ (w := w) hg m_32; have GE600 := gW_ (w := w) hg m_32; have NB594_600 := nl_ BK594 hg; have NB600_594 := ng_ BK594 hg; have NB595_600 := nl_ BK595 hg; have NB600_595 := ng_ BK595 hg; replace HO0_1 := vE_ HO0_1 hg hb; replace HO0_3 := vE_ HO0_3 hg hb; replace HO599 := vE_ HO599 hg hb; replace BK594 := bB_ BK594 hb; replace BK595 := bB_ BK595 hb; replace HB := Aside0.mk (below_step m_32 hb); clear hb hbox hg; have hnb14 := NB600_594.out; have hnc14 := NB594_600.out; have hnb15 := NB600_595.out; have hnc15 := NB595_600.out; obtain ⟨hcz16_0, hcz16_1, hfz16_0, hfz16_1⟩ := cf2_ BK600; obtain ⟨Ao17, co17, eo17⟩ := Kd.V_slice HO599.out; subst eo17; obtain ⟨hcz18_0, hcz18_1, hcz18_2, hcz18_3, hfz18_0, hfz18_1, hfz18_2, hfz18_3⟩ := cf4_ BK594) | ((with_reducible refine gate_callee (f := 124) rfl ?_); refine goesL_ (some 19) rfl rfl Try.func124 m_13 rfl #[.agg #[.bool a0_0, .slice A0_1 l0_1.length c0_1], .agg #[.bool t596, .slice Ao17 t597.length co17]] rfl m_2 ?_; (with_reducible refine (whole_DivMod.calls a0_0 _ _ l0_1 t596 _ _ t597 t601 t602 t605 t606 t609 _ ?side1 ?side2 ?side3 ?side4 A3.out).mono ?_); (case side1 => refine (Kd.V_reads' (e := 117) (base := w.heap.size) (ok := fun k_ => (((((P0_1_ k_ ∨ P0_3_ k_) ∨ w.heap.size ≤ k_) ∧ k_ ≠ gb594) ∧ k_ ≠ gb595) ∧ k_ ≠ gb600)) (n := l0_1.length) (c := c0_1) ?_).2.2; exact m_93); (case side2 => exact (Kd.V_reads' HO0_1.out).2.1); (case side3 => refine (Kd.V_reads' (e := 117) (base := w.heap.size) (ok := fun k_ => ((((P0_1_ k_ ∨ P0_3_ k_) ∨ w.heap.size ≤ k_) ∧ (k_ ≠ gb594 ∧ k_ ≠ gb595)) ∧ k_ ≠ gb600)) (n := t597.length) (c := co17) ?_).2.2; exact m_92); (case side4 => exact (Kd.V_reads' HO599.out).2.1); rintro e w19 ⟨v603, v607, rfl, ho0, ho1, hb⟩; refine ⟨_, rfl, ?_⟩; have HO604 := Aside0.mk (Kd.V_lower (Kd.V_mono (ok' := fun k_ => (w.heap.size ≤ k_) ∧ k_ ≠ gb594 ∧ k_ ≠ gb595 ∧ k_ ≠ gb600) ho0 (fun k_ hk_ => ⟨((Nat.le_trans (below_size m_31) hk_)), (Kd.freshB (g := gb594) (o := .cells #[.bool a0_0, .slice A0_1 l0_1.length c0_1, .bool a0_2, .slice A0_3 l0_3.length c0_3] 120 (0, 0)) m_61 k_ hk_), (Kd.freshB (g := gb595) (o := .cells #[.bool false, .slice none 0 0, .bool false, .slice none 0 0] 66 (0, 0)) m_60 k_ hk_), (Kd.freshB (g := gb600) (o := .cells #[.bool t596, .slice Ao17 t597.length co17] 64 (0, 0)) m_54 k_ hk_)⟩)) (below_size m_31)); have HO608 := Aside0.mk (Kd.V_lower (Kd.V_mono (ok' := fun k_ => ((P0_1_ k_ ∨ P0_3_ k_) ∨ w.heap.size ≤ k_) ∧ k_ ≠ gb594 ∧ k_ ≠ gb595 ∧ k_ ≠ gb600) ho1 (fun k_ hk_ => ⟨(.inr (Nat.le_trans (below_size m_31) hk_)), (Kd.freshB (g := gb594) (o := .cells #[.bool a0_0, .slice A0_1 l0_1.length c0_1, .bool a0_2, .slice A0_3 l0_3.length c0_3] 120 (0, 0)) m_61 k_ hk_), (Kd.freshB (g := gb595) (o := .cells #[.bool false, .slice none 0 0, .bool false, .slice none 0 0] 66 (0, 0)) m_60 k_ hk_), (Kd.freshB (g := gb600) (o := .cells #[.bool t596, .slice Ao17 t597.length co17] 64 (0, 0)) m_54 k_ hk_)⟩)) (below_size m_31)); replace HO0_1 := Aside0.mk (Kd.V_below m_93 hb); replace HO0_3 := Aside0.mk (Kd.V_below (by (with_reducible repeat (first | apply Kd.V_alloc | apply Kd.V_drewN | apply Kd.V_drew)); exact (Kd.V_mono (Kd.V_far (p := ⟨gb600, 1, none⟩) (Kd.V_far (p := ⟨gb600, 0, none⟩) (Kd.V_mono HO0_3.out (fun k_ hk => (⟨hk, hk.2⟩ : _ ∧ k_ ≠ gb600))) (fun _ hk => hk.2) (.bool t596)) (fun _ hk => hk.2) (.slice Ao17 t597.length co17)) (fun _ h_ => h_.1))) hb); replace HO599 := Aside0.mk (Kd.V_below m_92 hb); replace BK594 := Aside0.mk (blk_below (g := gb594) (o := .cells #[.bool a0_0, .slice A0_1 l0_1.length c0_1, .bool a0_2, .slice A0_3 l0_3.length c0_3] 120 (0, 0)) m_61 hb); replace BK595 := Aside0.mk (blk_below (g := gb595) (o := .cells #[.bool false, .slice none 0 0, .bool false, .slice none 0 0] 66 (0, 0)) m_60 hb); replace BK600 := Aside0.mk (blk_below (g := gb600) (o := .cells #[.bool t596, .slice Ao17 t597.length co17] 64 (0, 0)) m_54 hb); replace HB := Aside0.mk (below_step m_31 hb); clear hb; (try clear hk); (try clear ho0); (try clear ho1)) | ((with_reducible refine gate_dst (N := 4) rfl ?_); refine box_event ?hg (N := 4) ?hd (cs := #[.bool false, .slice none 0 0]) (t := 64) ?hr ?_; (case hd => rfl); (case hg => rfl); (case hr => exact hr_); intro gb610 hg w20 hbox hb; have BK610 := Aside0.mk (hbox); have GW610 := gW_ (w := w) hg m_31; have GE610 := gW_ (w := w) hg m_31; have NB594_610 := nl_ BK594 hg; have NB610_594 := ng_ BK594 hg; have NB595_610 := nl_ BK595 hg; have NB610_595 := ng_ BK595 hg; have NB600_610 := nl_ BK600 hg; have NB610_600 := ng_ BK600 hg; replace HO0_1 := vE_ HO0_1 hg hb; replace HO0_3 := vE_ HO0_3 hg hb; replace HO599 := vE_ HO599 hg hb; replace HO604 := vE_ HO604 hg hb; replace HO608 := vE_ HO608 hg hb; replace BK594 := bB_ BK594 hb; replace BK595 := bB_ BK595 hb; replace BK600 := bB_ BK600 hb; replace HB := Aside0.mk (below_step m_31 hb); clear hb hbox hg) | ((with_reducible refine gate_dst (N := 5) rfl ?_); refine box_event ?hg (N := 5) ?hd (cs := #[.bool false, .slice none 0 0]) (t := 64) ?hr ?_; (case hd => rfl); (case hg => rfl); (case hr => exact hr_); intro gb611 hg w21 hbox hb; have BK611 := Aside0.mk (hbox); have GW611 := gW_ (w := w) hg m_73; have GE611 := gW_ (w := w) hg m_73; have NB594_611 := nl_ BK594 hg; have NB611_594 := ng_ BK594 hg; have NB595_611 := nl_ BK595 hg; have NB611_595 := ng_ BK595 hg; have NB600_611 := nl_ BK600 hg; have NB611_600 := ng_ BK600 hg; have NB610_611 := nl_ BK610 hg; have NB611_610 := ng_ BK610 hg; replace HO0_1 := vE_ HO0_1 hg hb; replace HO0_3 := vE_ HO0_3 hg hb; replace HO599 := vE_ HO599 hg hb; replace HO604 := vE_ HO604 hg hb; replace HO608 := vE_ HO608 hg hb; replace BK594 := bB_ BK594 hb; replace BK595 := bB_ BK595 hb; replace BK600 := bB_ BK600 hb; replace BK610 := bB_ BK610 hb; replace HB := Aside0.mk (below_step m_73 hb); clear hb hbox hg; have hnb22 := NB610_594.out; have hnc22 := NB594_610.out; have hnb23 := NB610_595.out; have hnc23 := NB595_610.out; have hnb24 := NB610_600.out; have hnc24 := NB600_610.out; have hnb25 := NB610_611.out; have hnc25 := NB611_610.out; obtain ⟨hcz26_0, hcz26_1, hfz26_0, hfz26_1⟩ := cf2_ BK610; obtain ⟨Ao27, co27, eo27⟩ := Kd.V_slice HO604.out; subst eo27; have hnb28 := NB611_594.out; have hnc28 := NB594_611.out; have hnb29 := NB611_595.out; have hnc29 := NB595_611.out; have hnb30 := NB611_600.out; have hnc30 := NB600_611.out; obtain ⟨hcz31_0, hcz31_1, hfz31_0, hfz31_1⟩ := cf2_ BK611; obtain ⟨Ao32, co32, eo32⟩ := Kd.V_slice HO608.out; subst eo32; obtain ⟨hcz33_0, hcz33_1, hcz33_2, hcz33_3, hfz33_0, hfz33_1, hfz33_2, hfz33_3⟩ := cf4_ BK594; obtain ⟨hcz34_0, hcz34_1, hfz34_0, hfz34_1⟩ := cf2_ BK600) | ((with_reducible refine gate_callee (f := 124) rfl ?_); refine goesL_ (some 27) rfl rfl Try.func124 m_13 rfl #[.agg #[.bool a0_2, .slice A0_3 l0_3.length c0_3], .agg #[.bool t596, .slice Ao17 t597.length co17]] rfl m_2 ?_; (with_reducible refine (whole_DivMod.calls a0_2 _ _ l0_3 t596 _ _ t597 t612 t613 t616 t617 t620 _ ?side1 ?side2 ?side3 ?side4 A4.out).mono ?_); (case side1 => refine (Kd.V_reads' (e := 117) (base := w.heap.size) (ok := fun k_ => (((((((P0_1_ k_ ∨ P0_3_ k_) ∨ w.heap.size ≤ k_) ∧ k_ ≠ gb594) ∧ k_ ≠ gb595) ∧ k_ ≠ gb600) ∧ k_ ≠ gb610) ∧ k_ ≠ gb611)) (n := l0_3.length) (c := c0_3) ?_).2.2; exact m_70); (case side2 => exact (Kd.V_reads' HO0_3.out).2.1); (case side3 => refine (Kd.V_reads' (e := 117) (base := w.heap.size) (ok := fun k_ => ((((((P0_1_ k_ ∨ P0_3_ k_) ∨ w.heap.size ≤ k_) ∧ (k_ ≠ gb594 ∧ k_ ≠ gb595)) ∧ k_ ≠ gb600) ∧ k_ ≠ gb610) ∧ k_ ≠ gb611)) (n := t597.length) (c := co17) ?_).2.2; exact m_69); (case side4 => exact (Kd.V_reads' HO599.out).2.1); rintro e w35 ⟨v614, v618, rfl, ho0, ho1, hb⟩; refine ⟨_, rfl, ?_⟩; have HO615 := Aside0.mk (Kd.V_lower (Kd.V_mono (ok' := fun k_ => ((P0_1_ k_ ∨ P0_3_ k_) ∨ w.heap.size ≤ k_) ∧ k_ ≠ gb594 ∧ k_ ≠ gb595 ∧ k_ ≠ gb600 ∧ k_ ≠ gb610 ∧ k_ ≠ gb611) ho0 (fun k_ hk_ => ⟨(.inr (Nat.le_trans (below_size m_25) hk_)), (Kd.freshB (g := gb594) (o := .cells #[.bool a0_0, .slice A0_1 l0_1.length c0_1, .bool a0_2, .slice A0_3 l0_3.length c0_3] 120 (0, 0)) m_41 k_ hk_), (Kd.freshB (g := gb595) (o := .cells #[.bool false, .slice none 0 0, .bool false, .slice none 0 0] 66 (0, 0)) m_40 k_ hk_), (Kd.freshB (g := gb600) (o := .cells #[.bool t596, .slice Ao17 t597.length co17] 64 (0, 0)) m_39 k_ hk_), (Kd.freshB (g := gb610) (o := .cells #[.bool t601, .slice Ao27 t602.length co27] 64 (0, 0)) m_37 k_ hk_), (Kd.freshB (g := gb611) (o := .cells #[.bool t605, .slice Ao32 t606.length co32] 64 (0, 0)) m_36 k_ hk_)⟩)) (below_size m_25)); have HO619 := Aside0.mk (Kd.V_lower (Kd.V_mono (ok' := fun k_ => ((P0_1_ k_ ∨ P0_3_ k_) ∨ w.heap.size ≤ k_) ∧ k_ ≠ gb594 ∧ k_ ≠ gb595 ∧ k_ ≠ gb600 ∧ k_ ≠ gb610 ∧ k_ ≠ gb611) ho1 (fun k_ hk_ => ⟨(.inr (Nat.le_trans (below_size m_25) hk_)), (Kd.freshB (g := gb594) (o := .cells #[.bool a0_0, .slice A0_1 l0_1.length c0_1, .bool a0_2, .slice A0_3 l0_3.length c0_3] 120 (0, 0)) m_41 k_ hk_), (Kd.freshB (g := gb595) (o := .cells #[.bool false, .slice none 0 0, .bool false, .slice none 0 0] 66 (0, 0)) m_40 k_ hk_), (Kd.freshB (g := gb600) (o := .cells #[.bool t596, .slice Ao17 t597.length co17] 64 (0, 0)) m_39 k_ hk_), (Kd.freshB (g := gb610) (o := .cells #[.bool t601, .slice Ao27 t602.length co27] 64 (0, 0)) m_37 k_ hk_), (Kd.freshB (g := gb611) (o := .cells #[.bool t605, .slice Ao32 t606.length co32] 64 (0, 0)) m_36 k_ hk_)⟩)) (below_size m_25)); replace HO0_1 := Aside0.mk (Kd.V_below (by (with_reducible repeat (first | apply Kd.V_alloc | apply Kd.V_drewN | apply Kd.V_drew)); exact (Kd.V_mono (Kd.V_mono (Kd.V_far (p := ⟨gb611, 1, none⟩) (Kd.V_far (p := ⟨gb611, 0, none⟩) (Kd.V_far (p := ⟨gb610, 1, none⟩) (Kd.V_far (p := ⟨gb610, 0, none⟩) (Kd.V_mono (Kd.V_mono HO0_1.out (fun k_ hk => (⟨hk, hk.1.2⟩ : _ ∧ k_ ≠ gb610))) (fun k_ hk => (⟨hk, hk.1.2⟩ : _ ∧ k_ ≠ gb611))) (fun _ hk => hk.1.2) (.bool t601)) (fun _ hk => hk.1.2) (.slice Ao27 t602.length co27)) (fun _ hk => hk.2) (.bool t605)) (fun _ hk => hk.2) (.slice Ao32 t606.length co32)) (fun _ h_ => h_.1)) (fun _ h_ => h_.1))) hb); replace HO0_3 := Aside0.mk (Kd.V_below m_70 hb); replace HO599 := Aside0.mk (Kd.V_below m_69 hb); replace HO604 := Aside0.mk (Kd.V_below (by (with_reducible repeat (first | apply Kd.V_alloc | apply Kd.V_drewN | apply Kd.V_drew)); exact (Kd.V_mono (Kd.V_mono (Kd.V_far (p := ⟨gb611, 1, none⟩) (Kd.V_far (p := ⟨gb611, 0, none⟩) (Kd.V_far (p := ⟨gb610, 1, none⟩) (Kd.V_far (p := ⟨gb610, 0, none⟩) (Kd.V_mono (Kd.V_mono HO604.out (fun k_ hk => (⟨hk, hk.1.2⟩ : _ ∧ k_ ≠ gb610))) (fun k_ hk => (⟨hk, hk.1.2⟩ : _ ∧ k_ ≠ gb611))) (fun _ hk => hk.1.2) (.bool t601)) (fun _ hk => hk.1.2) (.slice Ao27 t602.length co27)) (fun _ hk => hk.2) (.bool t605)) (fun _ hk => hk.2) (.slice Ao32 t606.length co32)) (fun _ h_ => h_.1)) (fun _ h_ => h_.1))) hb); replace HO608 := Aside0.mk (Kd.V_below (by (with_reducible repeat (first | apply Kd.V_alloc | apply Kd.V_drewN | apply Kd.V_drew)); exact (Kd.V_mono (Kd.V_mono (Kd.V_far (p := ⟨gb611, 1, none⟩) (Kd.V_far (p := ⟨gb611, 0, none⟩) (Kd.V_far (p := ⟨gb610, 1, none⟩) (Kd.V_far (p := ⟨gb610, 0, none⟩) (Kd.V_mono (Kd.V_mono HO608.out (fun k_ hk => (⟨hk, hk.1.2⟩ : _ ∧ k_ ≠ gb610))) (fun k_ hk => (⟨hk, hk.1.2⟩ : _ ∧ k_ ≠ gb611))) (fun _ hk => hk.1.2) (.bool t601)) (fun _ hk => hk.1.2) (.slice Ao27 t602.length co27)) (fun _ hk => hk.2) (.bool t605)) (fun _ hk => hk.2) (.slice Ao32 t606.length co32)) (fun _ h_ => h_.1)) (fun _ h_ => h_.1))) hb); replace BK594 := Aside0.mk (blk_below (g := gb594) (o := .cells #[.bool a0_0, .slice A0_1 l0_1.length c0_1, .bool a0_2, .slice A0_3 l0_3.length c0_3] 120 (0, 0)) m_41 hb); replace BK595 := Aside0.mk (blk_below (g := gb595) (o := .cells #[.bool false, .slice none 0 0, .bool false, .slice none 0 0] 66 (0, 0)) m_40 hb); replace BK600 := Aside0.mk (blk_below (g := gb600) (o := .cells #[.bool t596, .slice Ao17 t597.length co17] 64 (0, 0)) m_39 hb); replace BK610 := Aside0.mk (blk_below (g := gb610) (o := .cells #[.bool t601, .slice Ao27 t602.length co27] 64 (0, 0)) m_37 hb); replace BK611 := Aside0.mk (blk_below (g := gb611) (o := .cells #[.bool t605, .slice Ao32 t606.length co32] 64 (0, 0)) m_36 hb); replace HB := Aside0.mk (below_step m_25 hb); clear hb; (try clear hk); (try clear ho0); (try clear ho1)) | ((with_reducible refine gate_dst (N := 7) rfl ?_); refine box_event ?hg (N := 7) ?hd (cs := #[.bool false, .slice none 0 0]) (t := 64) ?hr ?_; (case hd => rfl); (case hg => rfl); (case hr => exact hr_); intro gb621 hg w36 hbox hb; have BK621 := Aside0.mk (hbox); have GW621 := gW_ (w := w) hg m_25; have GE621 := gW_ (w := w) hg m_25; have NB594_621 := nl_ BK594 hg; have NB621_594 := ng_ BK594 hg; have NB595_621 := nl_ BK595 hg; have NB621_595 := ng_ BK595 hg; have NB600_621 := nl_ BK600 hg; have NB621_600 := ng_ BK600 hg; have NB610_621 := nl_ BK610 hg; have NB621_610 := ng_ BK610 hg; have NB611_621 := nl_ BK611 hg; have NB621_611 := ng_ BK611 hg; replace HO0_1 := vE_ HO0_1 hg hb; replace HO0_3 := vE_ HO0_3 hg hb; replace HO599 := vE_ HO599 hg hb; replace HO604 := vE_ HO604 hg hb; replace HO608 := vE_ HO608 hg hb; replace HO615 := vE_ HO615 hg hb; replace HO619 := vE_ HO619 hg hb; replace BK594 := bB_ BK594 hb; replace BK595 := bB_ BK595 hb; replace BK600 := bB_ BK600 hb; replace BK610 := bB_ BK610 hb; replace BK611 := bB_ BK611 hb; replace HB := Aside0.mk (below_step m_25 hb); clear hb hbox hg) | ((with_reducible refine gate_dst (N := 8) rfl ?_); refine box_event ?hg (N := 8) ?hd (cs := #[.bool false, .slice none 0 0]) (t := 64) ?hr ?_; (case hd => rfl); (case hg => rfl); (case hr => exact hr_); intro gb622 hg w37 hbox hb; have BK622 := Aside0.mk (hbox); have GW622 := gW_ (w := w) hg m_68; have GE622 := gW_ (w := w) hg m_68; have NB594_622 := nl_ BK594 hg; have NB622_594 := ng_ BK594 hg; have NB595_622 := nl_ BK595 hg; have NB622_595 := ng_ BK595 hg; have NB600_622 := nl_ BK600 hg; have NB622_600 := ng_ BK600 hg; have NB610_622 := nl_ BK610 hg; have NB622_610 := ng_ BK610 hg; have NB611_622 := nl_ BK611 hg; have NB622_611 := ng_ BK611 hg; have NB621_622 := nl_ BK621 hg; have NB622_621 := ng_ BK621 hg; replace HO0_1 := vE_ HO0_1 hg hb; replace HO0_3 := vE_ HO0_3 hg hb; replace HO599 := vE_ HO599 hg hb; replace HO604 := vE_ HO604 hg hb; replace HO608 := vE_ HO608 hg hb; replace HO615 := vE_ HO615 hg hb; replace HO619 := vE_ HO619 hg hb; replace BK594 := bB_ BK594 hb; replace BK595 := bB_ BK595 hb; replace BK600 := bB_ BK600 hb; replace BK610 := bB_ BK610 hb; replace BK611 := bB_ BK611 hb; replace BK621 := bB_ BK621 hb; replace HB := Aside0.mk (below_step m_68 hb); clear hb hbox hg; have hnb38 := NB621_594.out; have hnc38 := NB594_621.out; have hnb39 := NB621_595.out; have hnc39 := NB595_621.out; have hnb40 := NB621_600.out; have hnc40 := NB600_621.out; have hnb41 := NB621_610.out; have hnc41 := NB610_621.out; have hnb42 := NB621_611.out; have hnc42 := NB611_621.out; have hnb43 := NB621_622.out; have hnc43 := NB622_621.out; obtain ⟨hcz44_0, hcz44_1, hfz44_0, hfz44_1⟩ := cf2_ BK621; obtain ⟨Ao45, co45, eo45⟩ := Kd.V_slice HO615.out; subst eo45; have hnb46 := NB622_594.out; have hnc46 := NB594_622.out; have hnb47 := NB622_595.out; have hnc47 := NB595_622.out; have hnb48 := NB622_600.out; have hnc48 := NB600_622.out; have hnb49 := NB622_610.out; have hnc49 := NB610_622.out; have hnb50 := NB622_611.out; have hnc50 := NB611_622.out; obtain ⟨hcz51_0, hcz51_1, hfz51_0, hfz51_1⟩ := cf2_ BK622; obtain ⟨Ao52, co52, eo52⟩ := Kd.V_slice HO619.out; subst eo52))
  have n0_ : Aside0 (Kd.V (Kd.int .u32) 117 ((((w37.setCell ⟨gb621, 0, none⟩ (.bool t612)).setCell ⟨gb621, 1, none⟩ (.slice Ao45 t613.length co45)).setCell ⟨gb622, 0, none⟩ (.bool t616)).setCell ⟨gb622, 1, none⟩ (.slice Ao52 t617.length co52)) w.heap.size (fun k_ => ((P0_1_ k_ ∨ P0_3_ k_) ∨ w.heap.size ≤ k_) ∧ k_ ≠ gb594 ∧ k_ ≠ gb595 ∧ k_ ≠ gb600 ∧ k_ ≠ gb610 ∧ k_ ≠ gb611 ∧ k_ ≠ gb621 ∧ k_ ≠ gb622) (.slice A0_1 l0_1.length c0_1) l0_1) := ⟨(by (with_reducible repeat (first | apply Kd.V_alloc | apply Kd.V_drewN | apply Kd.V_drew)); exact Kd.V_mono (Kd.V_far (p := ⟨gb622, 1, none⟩) (Kd.V_far (p := ⟨gb622, 0, none⟩) (Kd.V_far (p := ⟨gb621, 1, none⟩) (Kd.V_far (p := ⟨gb621, 0, none⟩) (Kd.V_mono (Kd.V_mono HO0_1.out (fun k_ hk => (⟨hk, hk.1.2⟩ : _ ∧ k_ ≠ gb621))) (fun k_ hk => (⟨hk, hk.1.2⟩ : _ ∧ k_ ≠ gb622))) (fun _ hk => hk.1.2) (.bool t612)) (fun _ hk => hk.1.2) (.slice Ao45 t613.length co45)) (fun _ hk => hk.2) (.bool t616)) (fun _ hk => hk.2) (.slice Ao52 t617.length co52)) (fun _ hk => ⟨hk.1.1.1.1.1.1.1.1.1, ⟨hk.1.1.1.1.1.1.1.1.2, ⟨hk.1.1.1.1.1.1.1.2, ⟨hk.1.1.1.1.1.1.2, ⟨hk.1.1.1.1.1.2, ⟨hk.1.1.1.1.2, ⟨hk.1.1.1.2, hk.1.1.2⟩⟩⟩⟩⟩⟩⟩))⟩
  have n1_ : Aside0 (Kd.V (Kd.int .u32) 117 ((((w37.setCell ⟨gb621, 0, none⟩ (.bool t612)).setCell ⟨gb621, 1, none⟩ (.slice Ao45 t613.length co45)).setCell ⟨gb622, 0, none⟩ (.bool t616)).setCell ⟨gb622, 1, none⟩ (.slice Ao52 t617.length co52)) w.heap.size (fun k_ => ((P0_1_ k_ ∨ P0_3_ k_) ∨ w.heap.size ≤ k_) ∧ k_ ≠ gb594 ∧ k_ ≠ gb595 ∧ k_ ≠ gb600 ∧ k_ ≠ gb610 ∧ k_ ≠ gb611 ∧ k_ ≠ gb621 ∧ k_ ≠ gb622) (.slice A0_3 l0_3.length c0_3) l0_3) := ⟨(by (with_reducible repeat (first | apply Kd.V_alloc | apply Kd.V_drewN | apply Kd.V_drew)); exact Kd.V_mono (Kd.V_far (p := ⟨gb622, 1, none⟩) (Kd.V_far (p := ⟨gb622, 0, none⟩) (Kd.V_far (p := ⟨gb621, 1, none⟩) (Kd.V_far (p := ⟨gb621, 0, none⟩) (Kd.V_mono (Kd.V_mono HO0_3.out (fun k_ hk => (⟨hk, hk.1.2⟩ : _ ∧ k_ ≠ gb621))) (fun k_ hk => (⟨hk, hk.1.2⟩ : _ ∧ k_ ≠ gb622))) (fun _ hk => hk.1.2) (.bool t612)) (fun _ hk => hk.1.2) (.slice Ao45 t613.length co45)) (fun _ hk => hk.2) (.bool t616)) (fun _ hk => hk.2) (.slice Ao52 t617.length co52)) (fun _ hk => ⟨hk.1.1.1.1.1.1.1.1.1, ⟨hk.1.1.1.1.1.1.1.1.2, ⟨hk.1.1.1.1.1.1.1.2, ⟨hk.1.1.1.1.1.1.2, ⟨hk.1.1.1.1.1.2, ⟨hk.1.1.1.1.2, ⟨hk.1.1.1.2, hk.1.1.2⟩⟩⟩⟩⟩⟩⟩))⟩
  have n2_ : Aside0 (Kd.V (Kd.int .u32) 117 ((((w37.setCell ⟨gb621, 0, none⟩ (.bool t612)).setCell ⟨gb621, 1, none⟩ (.slice Ao45 t613.length co45)).setCell ⟨gb622, 0, none⟩ (.bool t616)).setCell ⟨gb622, 1, none⟩ (.slice Ao52 t617.length co52)) w.heap.size (fun k_ => ((P0_1_ k_ ∨ P0_3_ k_) ∨ w.heap.size ≤ k_) ∧ k_ ≠ gb594 ∧ k_ ≠ gb595 ∧ k_ ≠ gb600 ∧ k_ ≠ gb610 ∧ k_ ≠ gb611 ∧ k_ ≠ gb621 ∧ k_ ≠ gb622) (.slice Ao17 t597.length co17) t597) := ⟨(by (with_reducible repeat (first | apply Kd.V_alloc | apply Kd.V_drewN | apply Kd.V_drew)); exact Kd.V_mono (Kd.V_far (p := ⟨gb622, 1, none⟩) (Kd.V_far (p := ⟨gb622, 0, none⟩) (Kd.V_far (p := ⟨gb621, 1, none⟩) (Kd.V_far (p := ⟨gb621, 0, none⟩) (Kd.V_mono (Kd.V_mono HO599.out (fun k_ hk => (⟨hk, hk.1.2⟩ : _ ∧ k_ ≠ gb621))) (fun k_ hk => (⟨hk, hk.1.2⟩ : _ ∧ k_ ≠ gb622))) (fun _ hk => hk.1.2) (.bool t612)) (fun _ hk => hk.1.2) (.slice Ao45 t613.length co45)) (fun _ hk => hk.2) (.bool t616)) (fun _ hk => hk.2) (.slice Ao52 t617.length co52)) (fun _ hk => ⟨hk.1.1.1.1.1.1.1.1, ⟨hk.1.1.1.1.1.1.1.2.1, ⟨hk.1.1.1.1.1.1.1.2.2, ⟨hk.1.1.1.1.1.1.2, ⟨hk.1.1.1.1.1.2, ⟨hk.1.1.1.1.2, ⟨hk.1.1.1.2, hk.1.1.2⟩⟩⟩⟩⟩⟩⟩))⟩
  have n3_ : Aside0 (Kd.V (Kd.int .u32) 117 ((((w37.setCell ⟨gb621, 0, none⟩ (.bool t612)).setCell ⟨gb621, 1, none⟩ (.slice Ao45 t613.length co45)).setCell ⟨gb622, 0, none⟩ (.bool t616)).setCell ⟨gb622, 1, none⟩ (.slice Ao52 t617.length co52)) w.heap.size (fun k_ => (w.heap.size ≤ k_) ∧ k_ ≠ gb594 ∧ k_ ≠ gb595 ∧ k_ ≠ gb600 ∧ k_ ≠ gb610 ∧ k_ ≠ gb611 ∧ k_ ≠ gb621 ∧ k_ ≠ gb622) (.slice Ao27 t602.length co27) t602) := ⟨(by (with_reducible repeat (first | apply Kd.V_alloc | apply Kd.V_drewN | apply Kd.V_drew)); exact Kd.V_mono (Kd.V_far (p := ⟨gb622, 1, none⟩) (Kd.V_far (p := ⟨gb622, 0, none⟩) (Kd.V_far (p := ⟨gb621, 1, none⟩) (Kd.V_far (p := ⟨gb621, 0, none⟩) (Kd.V_mono (Kd.V_mono HO604.out (fun k_ hk => (⟨hk, hk.1.2⟩ : _ ∧ k_ ≠ gb621))) (fun k_ hk => (⟨hk, hk.1.2⟩ : _ ∧ k_ ≠ gb622))) (fun _ hk => hk.1.2) (.bool t612)) (fun _ hk => hk.1.2) (.slice Ao45 t613.length co45)) (fun _ hk => hk.2) (.bool t616)) (fun _ hk => hk.2) (.slice Ao52 t617.length co52)) (fun _ hk => ⟨hk.1.1.1.1.1.1.1, ⟨hk.1.1.1.1.1.1.2.1, ⟨hk.1.1.1.1.1.1.2.2.1, ⟨hk.1.1.1.1.1.1.2.2.2, ⟨hk.1.1.1.1.1.2, ⟨hk.1.1.1.1.2, ⟨hk.1.1.1.2, hk.1.1.2⟩⟩⟩⟩⟩⟩⟩))⟩
  have n4_ : Aside0 (Kd.V (Kd.int .u32) 117 ((((w37.setCell ⟨gb621, 0, none⟩ (.bool t612)).setCell ⟨gb621, 1, none⟩ (.slice Ao45 t613.length co45)).setCell ⟨gb622, 0, none⟩ (.bool t616)).setCell ⟨gb622, 1, none⟩ (.slice Ao52 t617.length co52)) w.heap.size (fun k_ => ((P0_1_ k_ ∨ P0_3_ k_) ∨ w.heap.size ≤ k_) ∧ k_ ≠ gb594 ∧ k_ ≠ gb595 ∧ k_ ≠ gb600 ∧ k_ ≠ gb610 ∧ k_ ≠ gb611 ∧ k_ ≠ gb621 ∧ k_ ≠ gb622) (.slice Ao32 t606.length co32) t606) := ⟨(by (with_reducible repeat (first | apply Kd.V_alloc | apply Kd.V_drewN | apply Kd.V_drew)); exact Kd.V_mono (Kd.V_far (p := ⟨gb622, 1, none⟩) (Kd.V_far (p := ⟨gb622, 0, none⟩) (Kd.V_far (p := ⟨gb621, 1, none⟩) (Kd.V_far (p := ⟨gb621, 0, none⟩) (Kd.V_mono (Kd.V_mono HO608.out (fun k_ hk => (⟨hk, hk.1.2⟩ : _ ∧ k_ ≠ gb621))) (fun k_ hk => (⟨hk, hk.1.2⟩ : _ ∧ k_ ≠ gb622))) (fun _ hk => hk.1.2) (.bool t612)) (fun _ hk => hk.1.2) (.slice Ao45 t613.length co45)) (fun _ hk => hk.2) (.bool t616)) (fun _ hk => hk.2) (.slice Ao52 t617.length co52)) (fun _ hk => ⟨hk.1.1.1.1.1.1.1, ⟨hk.1.1.1.1.1.1.2.1, ⟨hk.1.1.1.1.1.1.2.2.1, ⟨hk.1.1.1.1.1.1.2.2.2, ⟨hk.1.1.1.1.1.2, ⟨hk.1.1.1.1.2, ⟨hk.1.1.1.2, hk.1.1.2⟩⟩⟩⟩⟩⟩⟩))⟩
  have n5_ : Aside0 (Kd.V (Kd.int .u32) 117 ((((w37.setCell ⟨gb621, 0, none⟩ (.bool t612)).setCell ⟨gb621, 1, none⟩ (.slice Ao45 t613.length co45)).setCell ⟨gb622, 0, none⟩ (.bool t616)).setCell ⟨gb622, 1, none⟩ (.slice Ao52 t617.length co52)) w.heap.size (fun k_ => ((P0_1_ k_ ∨ P0_3_ k_) ∨ w.heap.size ≤ k_) ∧ k_ ≠ gb594 ∧ k_ ≠ gb595 ∧ k_ ≠ gb600 ∧ k_ ≠ gb610 ∧ k_ ≠ gb611 ∧ k_ ≠ gb621 ∧ k_ ≠ gb622) (.slice Ao45 t613.length co45) t613) := ⟨(by (with_reducible repeat (first | apply Kd.V_alloc | apply Kd.V_drewN | apply Kd.V_drew)); exact Kd.V_mono (Kd.V_far (p := ⟨gb622, 1, none⟩) (Kd.V_far (p := ⟨gb622, 0, none⟩) (Kd.V_far (p := ⟨gb621, 1, none⟩) (Kd.V_far (p := ⟨gb621, 0, none⟩) (Kd.V_mono (Kd.V_mono HO615.out (fun k_ hk => (⟨hk, hk.1.2⟩ : _ ∧ k_ ≠ gb621))) (fun k_ hk => (⟨hk, hk.1.2⟩ : _ ∧ k_ ≠ gb622))) (fun _ hk => hk.1.2) (.bool t612)) (fun _ hk => hk.1.2) (.slice Ao45 t613.length co45)) (fun _ hk => hk.2) (.bool t616)) (fun _ hk => hk.2) (.slice Ao52 t617.length co52)) (fun _ hk => ⟨hk.1.1.1.1.1, ⟨hk.1.1.1.1.2.1, ⟨hk.1.1.1.1.2.2.1, ⟨hk.1.1.1.1.2.2.2.1, ⟨hk.1.1.1.1.2.2.2.2.1, ⟨hk.1.1.1.1.2.2.2.2.2, ⟨hk.1.1.1.2, hk.1.1.2⟩⟩⟩⟩⟩⟩⟩))⟩
  have n6_ : Aside0 (Kd.V (Kd.int .u32) 117 ((((w37.setCell ⟨gb621, 0, none⟩ (.bool t612)).setCell ⟨gb621, 1, none⟩ (.slice Ao45 t613.length co45)).setCell ⟨gb622, 0, none⟩ (.bool t616)).setCell ⟨gb622, 1, none⟩ (.slice Ao52 t617.length co52)) w.heap.size (fun k_ => ((P0_1_ k_ ∨ P0_3_ k_) ∨ w.heap.size ≤ k_) ∧ k_ ≠ gb594 ∧ k_ ≠ gb595 ∧ k_ ≠ gb600 ∧ k_ ≠ gb610 ∧ k_ ≠ gb611 ∧ k_ ≠ gb621 ∧ k_ ≠ gb622) (.slice Ao52 t617.length co52) t617) := ⟨(by (with_reducible repeat (first | apply Kd.V_alloc | apply Kd.V_drewN | apply Kd.V_drew)); exact Kd.V_mono (Kd.V_far (p := ⟨gb622, 1, none⟩) (Kd.V_far (p := ⟨gb622, 0, none⟩) (Kd.V_far (p := ⟨gb621, 1, none⟩) (Kd.V_far (p := ⟨gb621, 0, none⟩) (Kd.V_mono (Kd.V_mono HO619.out (fun k_ hk => (⟨hk, hk.1.2⟩ : _ ∧ k_ ≠ gb621))) (fun k_ hk => (⟨hk, hk.1.2⟩ : _ ∧ k_ ≠ gb622))) (fun _ hk => hk.1.2) (.bool t612)) (fun _ hk => hk.1.2) (.slice Ao45 t613.length co45)) (fun _ hk => hk.2) (.bool t616)) (fun _ hk => hk.2) (.slice Ao52 t617.length co52)) (fun _ hk => ⟨hk.1.1.1.1.1, ⟨hk.1.1.1.1.2.1, ⟨hk.1.1.1.1.2.2.1, ⟨hk.1.1.1.1.2.2.2.1, ⟨hk.1.1.1.1.2.2.2.2.1, ⟨hk.1.1.1.1.2.2.2.2.2, ⟨hk.1.1.1.2, hk.1.1.2⟩⟩⟩⟩⟩⟩⟩))⟩
  have n7_ : Aside0 (((((w37.setCell ⟨gb621, 0, none⟩ (.bool t612)).setCell ⟨gb621, 1, none⟩ (.slice Ao45 t613.length co45)).setCell ⟨gb622, 0, none⟩ (.bool t616)).setCell ⟨gb622, 1, none⟩ (.slice Ao52 t617.length co52)).heap[gb594]? = some (.cells #[.bool a0_0, .slice A0_1 l0_1.length c0_1, .bool a0_2, .slice A0_3 l0_3.length c0_3] 120 (0, 0))) := ⟨(by (with_reducible repeat (first | refine blk_drewN ?_ _ | refine blk_drew ?_ | refine blk_alloc ?_ _)); refine blk_far ?_ NB594_622.out _; (with_reducible repeat (first | refine blk_drewN ?_ _ | refine blk_drew ?_ | refine blk_alloc ?_ _)); refine blk_far ?_ NB594_622.out _; (with_reducible repeat (first | refine blk_drewN ?_ _ | refine blk_drew ?_ | refine blk_alloc ?_ _)); refine blk_far ?_ NB594_621.out _; (with_reducible repeat (first | refine blk_drewN ?_ _ | refine blk_drew ?_ | refine blk_alloc ?_ _)); refine blk_far ?_ NB594_621.out _; (with_reducible repeat (first | refine blk_drewN ?_ _ | refine blk_drew ?_ | refine blk_alloc ?_ _)); exact BK594.out)⟩
  have n8_ : Aside0 (((((w37.setCell ⟨gb621, 0, none⟩ (.bool t612)).setCell ⟨gb621, 1, none⟩ (.slice Ao45 t613.length co45)).setCell ⟨gb622, 0, none⟩ (.bool t616)).setCell ⟨gb622, 1, none⟩ (.slice Ao52 t617.length co52)).heap[gb595]? = some (.cells #[.bool false, .slice none 0 0, .bool false, .slice none 0 0] 66 (0, 0))) := ⟨(by (with_reducible repeat (first | refine blk_drewN ?_ _ | refine blk_drew ?_ | refine blk_alloc ?_ _)); refine blk_far ?_ NB595_622.out _; (with_reducible repeat (first | refine blk_drewN ?_ _ | refine blk_drew ?_ | refine blk_alloc ?_ _)); refine blk_far ?_ NB595_622.out _; (with_reducible repeat (first | refine blk_drewN ?_ _ | refine blk_drew ?_ | refine blk_alloc ?_ _)); refine blk_far ?_ NB595_621.out _; (with_reducible repeat (first | refine blk_drewN ?_ _ | refine blk_drew ?_ | refine blk_alloc ?_ _)); refine blk_far ?_ NB595_621.out _; (with_reducible repeat (first | refine blk_drewN ?_ _ | refine blk_drew ?_ | refine blk_alloc ?_ _)); exact BK595.out)⟩
  have n9_ : Aside0 (((((w37.setCell ⟨gb621, 0, none⟩ (.bool t612)).setCell ⟨gb621, 1, none⟩ (.slice Ao45 t613.length co45)).setCell ⟨gb622, 0, none⟩ (.bool t616)).setCell ⟨gb622, 1, none⟩ (.slice Ao52 t617.length co52)).heap[gb600]? = some (.cells #[.bool t596, .slice Ao17 t597.length co17] 64 (0, 0))) := ⟨(by (with_reducible repeat (first | refine blk_drewN ?_ _ | refine blk_drew ?_ | refine blk_alloc ?_ _)); refine blk_far ?_ NB600_622.out _; (with_reducible repeat (first | refine blk_drewN ?_ _ | refine blk_drew ?_ | refine blk_alloc ?_ _)); refine blk_far ?_ NB600_622.out _; (with_reducible repeat (first | refine blk_drewN ?_ _ | refine blk_drew ?_ | refine blk_alloc ?_ _)); refine blk_far ?_ NB600_621.out _; (with_reducible repeat (first | refine blk_drewN ?_ _ | refine blk_drew ?_ | refine blk_alloc ?_ _)); refine blk_far ?_ NB600_621.out _; (with_reducible repeat (first | refine blk_drewN ?_ _ | refine blk_drew ?_ | refine blk_alloc ?_ _)); exact BK600.out)⟩
  have n10_ : Aside0 (((((w37.setCell ⟨gb621, 0, none⟩ (.bool t612)).setCell ⟨gb621, 1, none⟩ (.slice Ao45 t613.length co45)).setCell ⟨gb622, 0, none⟩ (.bool t616)).setCell ⟨gb622, 1, none⟩ (.slice Ao52 t617.length co52)).heap[gb610]? = some (.cells #[.bool t601, .slice Ao27 t602.length co27] 64 (0, 0))) := ⟨(by (with_reducible repeat (first | refine blk_drewN ?_ _ | refine blk_drew ?_ | refine blk_alloc ?_ _)); refine blk_far ?_ NB610_622.out _; (with_reducible repeat (first | refine blk_drewN ?_ _ | refine blk_drew ?_ | refine blk_alloc ?_ _)); refine blk_far ?_ NB610_622.out _; (with_reducible repeat (first | refine blk_drewN ?_ _ | refine blk_drew ?_ | refine blk_alloc ?_ _)); refine blk_far ?_ NB610_621.out _; (with_reducible repeat (first | refine blk_drewN ?_ _ | refine blk_drew ?_ | refine blk_alloc ?_ _)); refine blk_far ?_ NB610_621.out _; (with_reducible repeat (first | refine blk_drewN ?_ _ | refine blk_drew ?_ | refine blk_alloc ?_ _)); exact BK610.out)⟩
  have n11_ : Aside0 (((((w37.setCell ⟨gb621, 0, none⟩ (.bool t612)).setCell ⟨gb621, 1, none⟩ (.slice Ao45 t613.length co45)).setCell ⟨gb622, 0, none⟩ (.bool t616)).setCell ⟨gb622, 1, none⟩ (.slice Ao52 t617.length co52)).heap[gb611]? = some (.cells #[.bool t605, .slice Ao32 t606.length co32] 64 (0, 0))) := ⟨(by (with_reducible repeat (first | refine blk_drewN ?_ _ | refine blk_drew ?_ | refine blk_alloc ?_ _)); refine blk_far ?_ NB611_622.out _; (with_reducible repeat (first | refine blk_drewN ?_ _ | refine blk_drew ?_ | refine blk_alloc ?_ _)); refine blk_far ?_ NB611_622.out _; (with_reducible repeat (first | refine blk_drewN ?_ _ | refine blk_drew ?_ | refine blk_alloc ?_ _)); refine blk_far ?_ NB611_621.out _; (with_reducible repeat (first | refine blk_drewN ?_ _ | refine blk_drew ?_ | refine blk_alloc ?_ _)); refine blk_far ?_ NB611_621.out _; (with_reducible repeat (first | refine blk_drewN ?_ _ | refine blk_drew ?_ | refine blk_alloc ?_ _)); exact BK611.out)⟩
  have n12_ : Aside0 (((((w37.setCell ⟨gb621, 0, none⟩ (.bool t612)).setCell ⟨gb621, 1, none⟩ (.slice Ao45 t613.length co45)).setCell ⟨gb622, 0, none⟩ (.bool t616)).setCell ⟨gb622, 1, none⟩ (.slice Ao52 t617.length co52)).heap[gb621]? = some (.cells #[.bool t612, .slice Ao45 t613.length co45] 64 (0, 0))) := ⟨(by (with_reducible repeat (first | refine blk_drewN ?_ _ | refine blk_drew ?_ | refine blk_alloc ?_ _)); refine blk_far ?_ NB621_622.out _; (with_reducible repeat (first | refine blk_drewN ?_ _ | refine blk_drew ?_ | refine blk_alloc ?_ _)); refine blk_far ?_ NB621_622.out _; (with_reducible repeat (first | refine blk_drewN ?_ _ | refine blk_drew ?_ | refine blk_alloc ?_ _)); refine blk_put (cs := #[.bool t612, .slice none 0 0]) ?_ 1 _ rfl; (with_reducible repeat (first | refine blk_drewN ?_ _ | refine blk_drew ?_ | refine blk_alloc ?_ _)); refine blk_put (cs := #[.bool false, .slice none 0 0]) ?_ 0 _ rfl; (with_reducible repeat (first | refine blk_drewN ?_ _ | refine blk_drew ?_ | refine blk_alloc ?_ _)); exact BK621.out)⟩
  have n13_ : Aside0 (((((w37.setCell ⟨gb621, 0, none⟩ (.bool t612)).setCell ⟨gb621, 1, none⟩ (.slice Ao45 t613.length co45)).setCell ⟨gb622, 0, none⟩ (.bool t616)).setCell ⟨gb622, 1, none⟩ (.slice Ao52 t617.length co52)).heap[gb622]? = some (.cells #[.bool t616, .slice Ao52 t617.length co52] 64 (0, 0))) := ⟨(by (with_reducible repeat (first | refine blk_drewN ?_ _ | refine blk_drew ?_ | refine blk_alloc ?_ _)); refine blk_put (cs := #[.bool t616, .slice none 0 0]) ?_ 1 _ rfl; (with_reducible repeat (first | refine blk_drewN ?_ _ | refine blk_drew ?_ | refine blk_alloc ?_ _)); refine blk_put (cs := #[.bool false, .slice none 0 0]) ?_ 0 _ rfl; (with_reducible repeat (first | refine blk_drewN ?_ _ | refine blk_drew ?_ | refine blk_alloc ?_ _)); refine blk_far ?_ NB622_621.out _; (with_reducible repeat (first | refine blk_drewN ?_ _ | refine blk_drew ?_ | refine blk_alloc ?_ _)); refine blk_far ?_ NB622_621.out _; (with_reducible repeat (first | refine blk_drewN ?_ _ | refine blk_drew ?_ | refine blk_alloc ?_ _)); exact BK622.out)⟩
  have n14_ : Aside0 (Below w.heap.size w ((((w37.setCell ⟨gb621, 0, none⟩ (.bool t612)).setCell ⟨gb621, 1, none⟩ (.slice Ao45 t613.length co45)).setCell ⟨gb622, 0, none⟩ (.bool t616)).setCell ⟨gb622, 1, none⟩ (.slice Ao52 t617.length co52))) := ⟨m_30⟩
  (try clear HO0_1); (try clear HO0_3); (try clear HO599); (try clear HO604); (try clear HO608); (try clear HO615); (try clear HO619); (try clear BK594); (try clear BK595); (try clear BK600); (try clear BK610); (try clear BK611); (try clear BK621); (try clear BK622); (try clear HB)
  generalize ((((w37.setCell ⟨gb621, 0, none⟩ (.bool t612)).setCell ⟨gb621, 1, none⟩ (.slice Ao45 t613.length co45)).setCell ⟨gb622, 0, none⟩ (.bool t616)).setCell ⟨gb622, 1, none⟩ (.slice Ao52 t617.length co52)) = w53 at n0_ n1_ n2_ n3_ n4_ n5_ n6_ n7_ n8_ n9_ n10_ n11_ n12_ n13_ n14_ ⊢
  have HO0_1 := n0_
  have HO0_3 := n1_
  have HO599 := n2_
  have HO604 := n3_
  have HO608 := n4_
  have HO615 := n5_
  have HO619 := n6_
  have BK594 := n7_
  have BK595 := n8_
  have BK600 := n9_
  have BK610 := n10_
  have BK611 := n11_
  have BK621 := n12_
  have BK622 := n13_
  have HB := n14_
  clear n0_ n1_ n2_ n3_ n4_ n5_ n6_ n7_ n8_ n9_ n10_ n11_ n12_ n13_ n14_
  replace HO0_1 := vD_ HO0_1
  replace HO0_3 := vD_ HO0_3
  replace HO599 := vD_ HO599
  replace HO604 := vD_ HO604
  replace HO608 := vD_ HO608
  replace HO615 := vD_ HO615
  replace HO619 := vD_ HO619
  replace BK594 := bD_ BK594
  replace BK595 := bD_ BK595
  replace BK600 := bD_ BK600
  replace BK610 := bD_ BK610
  replace BK611 := bD_ BK611
  replace BK621 := bD_ BK621
  replace BK622 := bD_ BK622
  replace HB := Aside0.mk (below_drew1 HB.out)
  refine start_ (n := 4) (S := fun w' => w'.cell? ⟨gb621, 0, none⟩ = some (.bool t612) ∧ w'.cell? ⟨gb621, 1, none⟩ = some (.slice Ao45 t613.length co45)) (ds := []) #[false, false, false, false] m_13 rfl rfl ⟨(blk_cell BK621.out 0).trans rfl, (blk_cell BK621.out 1).trans rfl⟩ (fun hHeld => ?_)
  generalize w53.drew = w54 at HO0_1 HO0_3 HO599 HO604 HO608 HO615 HO619 BK594 BK595 BK600 BK610 BK611 BK621 BK622 HB hHeld ⊢
  refine tB_ 0 hHeld ?_
  refine cB_1 1 Try.func63 (args := #[.int .i64 1]) ?_
  with_reducible refine (whole_FromInt64.calls k 1 t623 t624 _ A5.out).mono ?_
  rintro e w55 ⟨v625, rfl, ho0, hb⟩
  refine ⟨_, rfl, ?_⟩
  have HO626 := Aside0.mk (Kd.V_lower (Kd.V_mono (ok' := fun k_ => ((P0_1_ k_ ∨ P0_3_ k_) ∨ w.heap.size ≤ k_) ∧ k_ ≠ gb594 ∧ k_ ≠ gb595 ∧ k_ ≠ gb600 ∧ k_ ≠ gb610 ∧ k_ ≠ gb611 ∧ k_ ≠ gb621 ∧ k_ ≠ gb622) ho0 (fun k_ hk_ => ⟨(.inr (Nat.le_trans (below_size m_30) hk_)), (Kd.freshB (bA_ BK594.out) k_ hk_), (Kd.freshB (bA_ BK595.out) k_ hk_), (Kd.freshB (bA_ BK600.out) k_ hk_), (Kd.freshB (bA_ BK610.out) k_ hk_), (Kd.freshB (bA_ BK611.out) k_ hk_), (Kd.freshB (bA_ BK621.out) k_ hk_), (Kd.freshB (bA_ BK622.out) k_ hk_)⟩)) (below_size m_30))
  replace HO0_1 := vB_ HO0_1 hb
  replace HO0_3 := vB_ HO0_3 hb
  replace HO599 := vB_ HO599 hb
  replace HO604 := vB_ HO604 hb
  replace HO608 := vB_ HO608 hb
  replace HO615 := vB_ HO615 hb
  replace HO619 := vB_ HO619 hb
  replace BK594 := bB_ BK594 hb
  replace BK595 := bB_ BK595 hb
  replace BK600 := bB_ BK600 hb
  replace BK610 := bB_ BK610 hb
  replace BK611 := bB_ BK611 hb
  replace BK621 := bB_ BK621 hb
  replace BK622 := bB_ BK622 hb
  replace HB := Aside0.mk (below_step m_30 hb)
  (try clear hb); (try clear hb2); (try clear hk); (try clear hi); (try clear ho0)
  obtain ⟨Ao56, co56, eo56⟩ := Kd.V_slice HO626.out
  (first | subst eo56 | (injection eo56 with f1_ f2_ f3_; have f4_ := f1_.symm; have f5_ := f3_.symm; clear f1_ f2_ f3_; subst f4_; subst f5_))
  refine nx_ ⟨(blk_cell BK621.out 0).trans rfl, (blk_cell BK621.out 1).trans rfl⟩ (fun hHeld => ?_)
  refine cB_1 2 Try.func83 (args := #[.agg #[.bool t612, .slice Ao45 t613.length co45], .agg #[.bool t623, .slice Ao56 t624.length co56]]) ?_
  with_reducible refine (whole_Cmp.calls k t612 _ _ t613 t623 _ _ t624 t627 _ ?side1 ?side2 ?side3 ?side4 A6.out).mono ?_
  (case side1 => exact cA_ (Kd.V_reads' HO615.out).2.2)
  (case side2 => exact (Kd.V_reads' HO615.out).2.1)
  (case side3 => exact cA_ (Kd.V_reads' HO626.out).2.2)
  (case side4 => exact (Kd.V_reads' HO626.out).2.1)
  rintro e w57 ⟨rfl, hb⟩
  refine ⟨_, rfl, ?_⟩
  replace HO0_1 := vB_ HO0_1 hb
  replace HO0_3 := vB_ HO0_3 hb
  replace HO599 := vB_ HO599 hb
  replace HO604 := vB_ HO604 hb
  replace HO608 := vB_ HO608 hb
  replace HO615 := vB_ HO615 hb
  replace HO619 := vB_ HO619 hb
  replace HO626 := vB_ HO626 hb
  replace BK594 := bB_ BK594 hb
  replace BK595 := bB_ BK595 hb
  replace BK600 := bB_ BK600 hb
  replace BK610 := bB_ BK610 hb
  replace BK611 := bB_ BK611 hb
  replace BK621 := bB_ BK621 hb
  replace BK622 := bB_ BK622 hb
  replace HB := Aside0.mk (below_step m_30 hb)
  (try clear hb); (try clear hb2); (try clear hk); (try clear hi)
  refine nx_ ⟨(blk_cell BK621.out 0).trans rfl, (blk_cell BK621.out 1).trans rfl⟩ (fun hHeld => ?_)
  refine pB_ 3 ?_
  refine done_ m_13 ?_
  obtain ⟨hcz58_0, hcz58_1, hfz58_0, hfz58_1⟩ := cf2_ BK610
  obtain ⟨hcz59_0, hcz59_1, hcz59_2, hcz59_3, hfz59_0, hfz59_1, hfz59_2, hfz59_3⟩ := cf4_ BK595
  try go_wp2
  refine bodyPost_ret (results_cell_row rfl _ _ gb595 66 #[.bool t601, .slice Ao27 t602.length co27, .bool false, .slice none 0 0] (0, 0) _ rfl (by (with_reducible repeat (first | refine blk_drewN ?_ _ | refine blk_drew ?_ | refine blk_alloc ?_ _)); refine blk_put (cs := #[.bool t601, .slice Ao27 t602.length co27, .bool false, .slice none 0 0]) ?_ 3 _ rfl; (with_reducible repeat (first | refine blk_drewN ?_ _ | refine blk_drew ?_ | refine blk_alloc ?_ _)); refine blk_put (cs := #[.bool t601, .slice Ao27 t602.length co27, .bool false, .slice none 0 0]) ?_ 2 _ rfl; (with_reducible repeat (first | refine blk_drewN ?_ _ | refine blk_drew ?_ | refine blk_alloc ?_ _)); refine blk_put (cs := #[.bool t601, .slice none 0 0, .bool false, .slice none 0 0]) ?_ 1 _ rfl; (with_reducible repeat (first | refine blk_drewN ?_ _ | refine blk_drew ?_ | refine blk_alloc ?_ _)); refine blk_put (cs := #[.bool false, .slice none 0 0, .bool false, .slice none 0 0]) ?_ 0 _ rfl; (with_reducible repeat (first | refine blk_drewN ?_ _ | refine blk_drew ?_ | refine blk_alloc ?_ _)); exact BK595.out) Try.underlying66 rfl m_13) rfl ?_
  exact ⟨_, _, m_5, (by (with_reducible repeat (first | apply Kd.V_alloc | apply Kd.V_drewN | apply Kd.V_drew)); exact Kd.V_mono (Kd.V_far (p := ⟨gb595, 3, none⟩) (Kd.V_far (p := ⟨gb595, 2, none⟩) (Kd.V_far (p := ⟨gb595, 1, none⟩) (Kd.V_far (p := ⟨gb595, 0, none⟩) (Kd.V_mono HO604.out (fun k_ hk => (⟨hk, hk.2.2.1⟩ : _ ∧ k_ ≠ gb595))) (fun _ hk => hk.2) (.bool t601)) (fun _ hk => hk.2) (.slice Ao27 t602.length co27)) (fun _ hk => hk.2) (.bool false)) (fun _ hk => hk.2) (.slice none 0 0)) (fun _ hk => hk.1.1)), Kd.V_nil _ _ _ _ _, m_30⟩
 ·rw [if_neg c7] at H
  cases H
end Go.Proofs.Ytelklgdmhnkenaa.U
namespace Go.Proofs.Ytelklgdmhnkenaa.U
attribute [local go_sem] max2_int min2_int max_two min_two max_three min_three max_four min_four
def fracK_Canonical.f (k : Nat) (a0_0 : Bool) (l0_1 : List Int) (a0_2 : Bool) (l0_3 : List Int) : Option (Bool × List Int × Bool × List Int) := (fracK_of.f k a0_0 l0_1 a0_2 l0_3).bind fun bt630 => ((fracK_parts_least.f k bt630.1 bt630.2.1 bt630.2.2.1 bt630.2.2.2).bind fun bt638 => (some (bt638.1, bt638.2.1, bt638.2.2.1, bt638.2.2.2)))
set_option maxHeartbeats 8000000 in
set_option maxRecDepth 100000 in
theorem fracK_Canonical.calls (k : Nat) (a0_0 : Bool) (P0_1_ : Nat → Prop) (A0_1 : Option Addr) (c0_1 : Nat) (l0_1 : List Int) (a0_2 : Bool) (P0_3_ : Nat → Prop) (A0_3 : Option Addr) (c0_3 : Nat) (l0_3 : List Int) (r1 : Bool) (r2 : List Int) (r3 : Bool) (r4 : List Int) (w : World) (hs0_1 : Kd.V (Kd.int .u32) 117 w w.heap.size (fun k_ => P0_1_ k_) (.slice A0_1 l0_1.length c0_1) l0_1) (hs0_3 : Kd.V (Kd.int .u32) 117 w w.heap.size (fun k_ => P0_3_ k_) (.slice A0_3 l0_3.length c0_3) l0_3) (h : fracK_Canonical.f k a0_0 l0_1 a0_2 l0_3 = some (r1, r2, r3, r4)) :
  Calls Try.prog 97 #[.agg #[.bool a0_0, .slice A0_1 l0_1.length c0_1, .bool a0_2, .slice A0_3 l0_3.length c0_3]] w fun e w' => ∃ v1_ v3_ : Value, e = .returned (.agg #[.bool r1, v1_, .bool r3, v3_]) ∧ Kd.V (Kd.int .u32) 117 w' w.heap.size (fun k_ => (w.heap.size ≤ k_)) v1_ r2 ∧ Kd.V (Kd.int .u32) 117 w' w.heap.size (fun k_ => (w.heap.size ≤ k_)) v3_ r4 ∧ Below w.heap.size w w' := by
 have HO0_1 := Aside0.mk (show Kd.V (Kd.int .u32) 117 w w.heap.size (fun k_ => ((P0_1_ k_ ∨ P0_3_ k_) ∨ w.heap.size ≤ k_)) (.slice A0_1 l0_1.length c0_1) l0_1 from Kd.V_mono hs0_1 (fun k_ hk => .inl (.inl hk)))
 have HO0_3 := Aside0.mk (show Kd.V (Kd.int .u32) 117 w w.heap.size (fun k_ => ((P0_1_ k_ ∨ P0_3_ k_) ∨ w.heap.size ≤ k_)) (.slice A0_3 l0_3.length c0_3) l0_3 from Kd.V_mono hs0_3 (fun k_ hk => .inl (.inr hk)))
 have HB := Aside0.mk (Below.refl w.heap.size w)
 have H : ((fracK_of.f k a0_0 l0_1 a0_2 l0_3).bind fun bt630 => ((fracK_parts_least.f k bt630.1 bt630.2.1 bt630.2.2.1 bt630.2.2.2).bind fun bt638 => (some (bt638.1, bt638.2.1, bt638.2.2.1, bt638.2.2.2)))) = some (r1, r2, r3, r4) := h
 clear h
 replace H := Option.bind_eq_some_iff.mp H
 obtain ⟨⟨t630, t631, t634, t635⟩, A20, H⟩ := H
 replace H : ((fracK_parts_least.f k t630 t631 t634 t635).bind fun bt638 => (some (bt638.1, bt638.2.1, bt638.2.2.1, bt638.2.2.2))) = some (r1, r2, r3, r4) := H
 have A2 := Aside0.mk A20
 clear A20
 replace H := Option.bind_eq_some_iff.mp H
 obtain ⟨⟨t638, t639, t642, t643⟩, A30, H⟩ := H
 replace H : (some (t638, t639, t642, t643)) = some (r1, r2, r3, r4) := H
 have A3 := Aside0.mk A30
 clear A30
 simp only [Option.some.injEq, Prod.mk.injEq] at H
 obtain ⟨rfl, rfl, rfl, rfl⟩ := H
 go_enter Try.func97, Try.ntmps97
 go_wp2_with (first | ((with_reducible refine gate_dst (N := 1) rfl ?_); refine box_event ?hg (N := 1) ?hd (cs := #[.bool a0_0, .slice A0_1 l0_1.length c0_1, .bool a0_2, .slice A0_3 l0_3.length c0_3]) (t := 66) ?hr ?_; (case hd => rfl); (case hg => rfl); (case hr => exact hr_); intro gb628 hg w4 hbox hb; have BK628 := Aside0.mk (hbox); replace HO0_1 := vE_ HO0_1 hg hb; replace HO0_3 := vE_ HO0_3 hg hb; replace HB := Aside0.mk (below_step m_1 hb); clear hb hbox hg) | ((with_reducible refine gate_dst (N := 2) rfl ?_); refine box_event ?hg (N := 2) ?hd (cs := #[.bool false, .slice none 0 0, .bool false, .slice none 0 0]) (t := 66) ?hr ?_; (case hd => rfl); (case hg => rfl); (case hr => exact hr_); intro gb629 hg w5 hbox hb; have BK629 := Aside0.mk (hbox); have GE629 := gW_ (w := w) hg m_101; replace HO0_1 := vE_ HO0_1 hg hb; replace HO0_3 := vE_ HO0_3 hg hb; replace BK628 := bB_ BK628 hb; replace HB := Aside0.mk (below_step m_101 hb); clear hb hbox hg; obtain ⟨hcz7_0, hcz7_1, hcz7_2, hcz7_3, hfz7_0, hfz7_1, hfz7_2, hfz7_3⟩ := cf4_ BK628) | ((with_reducible refine gate_callee (f := 82) rfl ?_); refine goesL_ (some 4) rfl rfl Try.func82 m_13 rfl #[.agg #[.bool a0_0, .slice A0_1 l0_1.length c0_1, .bool a0_2, .slice A0_3 l0_3.length c0_3]] rfl m_2 ?_; (with_reducible refine (fracK_of.calls k a0_0 (fun k_ => ((((P0_1_ k_ ∨ P0_3_ k_) ∨ w.heap.size ≤ k_) ∧ k_ ≠ gb628) ∧ k_ ≠ gb629)) _ _ l0_1 a0_2 (fun k_ => ((((P0_1_ k_ ∨ P0_3_ k_) ∨ w.heap.size ≤ k_) ∧ k_ ≠ gb628) ∧ k_ ≠ gb629)) _ _ l0_3 t630 t631 t634 t635 _ ?side1 ?side2 A2.out).mono ?_); (case side1 => exact HO0_1.out); (case side2 => exact HO0_3.out); rintro e w8 ⟨v632, v636, rfl, ho0, ho1, hb⟩; refine ⟨_, rfl, ?_⟩; have HO633 := Aside0.mk (Kd.V_lower (Kd.V_mono (ok' := fun k_ => ((P0_1_ k_ ∨ P0_3_ k_) ∨ w.heap.size ≤ k_) ∧ k_ ≠ gb628 ∧ k_ ≠ gb629) ho0 (fun k_ hk_ => ⟨Or.elim hk_ (fun hs_ => Or.elim hs_ (fun hs_ => hs_.1.1) (fun hs_ => hs_.1.1)) (fun hn_ => (.inr (Nat.le_trans (below_size m_27) hn_))), Or.elim hk_ (fun hs_ => Or.elim hs_ (fun hs_ => hs_.1.2) (fun hs_ => hs_.1.2)) (fun hn_ => (Kd.freshB (bA_ BK628.out) k_ hn_)), Or.elim hk_ (fun hs_ => Or.elim hs_ (fun hs_ => hs_.2) (fun hs_ => hs_.2)) (fun hn_ => (Kd.freshB (bA_ BK629.out) k_ hn_))⟩)) (below_size m_27)); have HO637 := Aside0.mk (Kd.V_lower (Kd.V_mono (ok' := fun k_ => ((P0_1_ k_ ∨ P0_3_ k_) ∨ w.heap.size ≤ k_) ∧ k_ ≠ gb628 ∧ k_ ≠ gb629) ho1 (fun k_ hk_ => ⟨Or.elim hk_ (fun hs_ => Or.elim hs_ (fun hs_ => hs_.1.1) (fun hs_ => hs_.1.1)) (fun hn_ => (.inr (Nat.le_trans (below_size m_27) hn_))), Or.elim hk_ (fun hs_ => Or.elim hs_ (fun hs_ => hs_.1.2) (fun hs_ => hs_.1.2)) (fun hn_ => (Kd.freshB (bA_ BK628.out) k_ hn_)), Or.elim hk_ (fun hs_ => Or.elim hs_ (fun hs_ => hs_.2) (fun hs_ => hs_.2)) (fun hn_ => (Kd.freshB (bA_ BK629.out) k_ hn_))⟩)) (below_size m_27)); replace BK628 := bB_ BK628 hb; replace BK629 := bB_ BK629 hb; replace HB := Aside0.mk (below_step m_27 hb); clear hb; (try clear ho0); (try clear ho1); obtain ⟨Ao9, co9, eo9⟩ := Kd.V_slice HO633.out; subst eo9; obtain ⟨Ao10, co10, eo10⟩ := Kd.V_slice HO637.out; subst eo10) | ((with_reducible refine gate_callee (f := 104) rfl ?_); refine goesL_ (some 5) rfl rfl Try.func104 m_13 rfl #[.agg #[.bool t630, .slice Ao9 t631.length co9, .bool t634, .slice Ao10 t635.length co10]] rfl m_2 ?_; (with_reducible refine (fracK_parts_least.calls k t630 (fun k_ => (((P0_1_ k_ ∨ P0_3_ k_) ∨ w.heap.size ≤ k_) ∧ (k_ ≠ gb628 ∧ k_ ≠ gb629))) _ _ t631 t634 (fun k_ => (((P0_1_ k_ ∨ P0_3_ k_) ∨ w.heap.size ≤ k_) ∧ (k_ ≠ gb628 ∧ k_ ≠ gb629))) _ _ t635 t638 t639 t642 t643 _ ?side1 ?side2 A3.out).mono ?_); (case side1 => exact HO633.out); (case side2 => exact HO637.out); rintro e w11 ⟨v640, v644, rfl, ho0, ho1, hb⟩; refine ⟨_, rfl, ?_⟩; have HO641 := Aside0.mk (Kd.V_lower (Kd.V_mono (ok' := fun k_ => (w.heap.size ≤ k_) ∧ k_ ≠ gb628 ∧ k_ ≠ gb629) ho0 (fun k_ hk_ => ⟨((fun hn_ => ((Nat.le_trans (below_size m_27) hn_))) hk_), ((fun hn_ => (Kd.freshB (bA_ BK628.out) k_ hn_)) hk_), ((fun hn_ => (Kd.freshB (bA_ BK629.out) k_ hn_)) hk_)⟩)) (below_size m_27)); have HO645 := Aside0.mk (Kd.V_lower (Kd.V_mono (ok' := fun k_ => (w.heap.size ≤ k_) ∧ k_ ≠ gb628 ∧ k_ ≠ gb629) ho1 (fun k_ hk_ => ⟨((fun hn_ => ((Nat.le_trans (below_size m_27) hn_))) hk_), ((fun hn_ => (Kd.freshB (bA_ BK628.out) k_ hn_)) hk_), ((fun hn_ => (Kd.freshB (bA_ BK629.out) k_ hn_)) hk_)⟩)) (below_size m_27)); replace BK629 := bB_ BK629 hb; replace HB := Aside0.mk (below_step m_27 hb); clear hb; (try clear ho0); (try clear ho1); obtain ⟨hcz12_0, hcz12_1, hcz12_2, hcz12_3, hfz12_0, hfz12_1, hfz12_2, hfz12_3⟩ := cf4_ BK629; obtain ⟨Ao13, co13, eo13⟩ := Kd.V_slice HO641.out; subst eo13; obtain ⟨Ao14, co14, eo14⟩ := Kd.V_slice HO645.out; subst eo14))
 refine bodyPost_ret (results_cell_row rfl _ _ gb629 66 #[.bool t638, .slice Ao13 t639.length co13, .bool t642, .slice Ao14 t643.length co14] (0, 0) _ rfl (by (with_reducible repeat (first | refine blk_drewN ?_ _ | refine blk_drew ?_ | refine blk_alloc ?_ _)); refine blk_put (cs := #[.bool t638, .slice Ao13 t639.length co13, .bool t642, .slice none 0 0]) ?_ 3 _ rfl; (with_reducible repeat (first | refine blk_drewN ?_ _ | refine blk_drew ?_ | refine blk_alloc ?_ _)); refine blk_put (cs := #[.bool t638, .slice Ao13 t639.length co13, .bool false, .slice none 0 0]) ?_ 2 _ rfl; (with_reducible repeat (first | refine blk_drewN ?_ _ | refine blk_drew ?_ | refine blk_alloc ?_ _)); refine blk_put (cs := #[.bool t638, .slice none 0 0, .bool false, .slice none 0 0]) ?_ 1 _ rfl; (with_reducible repeat (first | refine blk_drewN ?_ _ | refine blk_drew ?_ | refine blk_alloc ?_ _)); refine blk_put (cs := #[.bool false, .slice none 0 0, .bool false, .slice none 0 0]) ?_ 0 _ rfl; (with_reducible repeat (first | refine blk_drewN ?_ _ | refine blk_drew ?_ | refine blk_alloc ?_ _)); exact BK629.out) Try.underlying66 rfl m_13) rfl ?_
 exact ⟨_, _, m_5, (by (with_reducible repeat (first | apply Kd.V_alloc | apply Kd.V_drewN | apply Kd.V_drew)); exact Kd.V_mono (Kd.V_far (p := ⟨gb629, 3, none⟩) (Kd.V_far (p := ⟨gb629, 2, none⟩) (Kd.V_far (p := ⟨gb629, 1, none⟩) (Kd.V_far (p := ⟨gb629, 0, none⟩) (Kd.V_mono HO641.out (fun k_ hk => (⟨hk, hk.2.2⟩ : _ ∧ k_ ≠ gb629))) (fun _ hk => hk.2) (.bool t638)) (fun _ hk => hk.2) (.slice Ao13 t639.length co13)) (fun _ hk => hk.2) (.bool t642)) (fun _ hk => hk.2) (.slice Ao14 t643.length co14)) (fun _ hk => hk.1.1)), (by (with_reducible repeat (first | apply Kd.V_alloc | apply Kd.V_drewN | apply Kd.V_drew)); exact Kd.V_mono (Kd.V_far (p := ⟨gb629, 3, none⟩) (Kd.V_far (p := ⟨gb629, 2, none⟩) (Kd.V_far (p := ⟨gb629, 1, none⟩) (Kd.V_far (p := ⟨gb629, 0, none⟩) (Kd.V_mono HO645.out (fun k_ hk => (⟨hk, hk.2.2⟩ : _ ∧ k_ ≠ gb629))) (fun _ hk => hk.2) (.bool t638)) (fun _ hk => hk.2) (.slice Ao13 t639.length co13)) (fun _ hk => hk.2) (.bool t642)) (fun _ hk => hk.2) (.slice Ao14 t643.length co14)) (fun _ hk => hk.1.1)), m_27⟩
end Go.Proofs.Ytelklgdmhnkenaa.U
namespace Go.Proofs.Ytelklgdmhnkenaa.U
attribute [local go_sem] max2_int min2_int max_two min_two max_three min_three max_four min_four
def fracK_Min.f (k : Nat) (a0_0 : Bool) (l0_1 : List Int) (a0_2 : Bool) (l0_3 : List Int) (a1_0 : Bool) (l1_1 : List Int) (a1_2 : Bool) (l1_3 : List Int) : Option (Bool × List Int × Bool × List Int) := (fracK_Cmp.f k a0_0 l0_1 a0_2 l0_3 a1_0 l1_1 a1_2 l1_3).bind fun t649 => (if t649 ≤ 0 then ((fracK_Canonical.f k a0_0 l0_1 a0_2 l0_3).bind fun bt650 => (some (bt650.1, bt650.2.1, bt650.2.2.1, bt650.2.2.2))) else ((fracK_Canonical.f k a1_0 l1_1 a1_2 l1_3).bind fun bt658 => (some (bt658.1, bt658.2.1, bt658.2.2.1, bt658.2.2.2))))
set_option maxHeartbeats 8000000 in
set_option maxRecDepth 100000 in
theorem fracK_Min.calls (k : Nat) (a0_0 : Bool) (P0_1_ : Nat → Prop) (A0_1 : Option Addr) (c0_1 : Nat) (l0_1 : List Int) (a0_2 : Bool) (P0_3_ : Nat → Prop) (A0_3 : Option Addr) (c0_3 : Nat) (l0_3 : List Int) (a1_0 : Bool) (P1_1_ : Nat → Prop) (A1_1 : Option Addr) (c1_1 : Nat) (l1_1 : List Int) (a1_2 : Bool) (P1_3_ : Nat → Prop) (A1_3 : Option Addr) (c1_3 : Nat) (l1_3 : List Int) (r1 : Bool) (r2 : List Int) (r3 : Bool) (r4 : List Int) (w : World) (hs0_1 : Kd.V (Kd.int .u32) 117 w w.heap.size (fun k_ => P0_1_ k_) (.slice A0_1 l0_1.length c0_1) l0_1) (hs0_3 : Kd.V (Kd.int .u32) 117 w w.heap.size (fun k_ => P0_3_ k_) (.slice A0_3 l0_3.length c0_3) l0_3) (hs1_1 : Kd.V (Kd.int .u32) 117 w w.heap.size (fun k_ => P1_1_ k_) (.slice A1_1 l1_1.length c1_1) l1_1) (hs1_3 : Kd.V (Kd.int .u32) 117 w w.heap.size (fun k_ => P1_3_ k_) (.slice A1_3 l1_3.length c1_3) l1_3) (h : fracK_Min.f k a0_0 l0_1 a0_2 l0_3 a1_0 l1_1 a1_2 l1_3 = some (r1, r2, r3, r4)) :
  Calls Try.prog 78 #[.agg #[.bool a0_0, .slice A0_1 l0_1.length c0_1, .bool a0_2, .slice A0_3 l0_3.length c0_3], .agg #[.bool a1_0, .slice A1_1 l1_1.length c1_1, .bool a1_2, .slice A1_3 l1_3.length c1_3]] w fun e w' => ∃ v1_ v3_ : Value, e = .returned (.agg #[.bool r1, v1_, .bool r3, v3_]) ∧ Kd.V (Kd.int .u32) 117 w' w.heap.size (fun k_ => (w.heap.size ≤ k_)) v1_ r2 ∧ Kd.V (Kd.int .u32) 117 w' w.heap.size (fun k_ => (w.heap.size ≤ k_)) v3_ r4 ∧ Below w.heap.size w w' := by
 have HO0_1 := Aside0.mk (show Kd.V (Kd.int .u32) 117 w w.heap.size (fun k_ => ((P0_1_ k_ ∨ P0_3_ k_ ∨ P1_1_ k_ ∨ P1_3_ k_) ∨ w.heap.size ≤ k_)) (.slice A0_1 l0_1.length c0_1) l0_1 from Kd.V_mono hs0_1 (fun k_ hk => .inl (.inl hk)))
 have HO0_3 := Aside0.mk (show Kd.V (Kd.int .u32) 117 w w.heap.size (fun k_ => ((P0_1_ k_ ∨ P0_3_ k_ ∨ P1_1_ k_ ∨ P1_3_ k_) ∨ w.heap.size ≤ k_)) (.slice A0_3 l0_3.length c0_3) l0_3 from Kd.V_mono hs0_3 (fun k_ hk => .inl (.inr (.inl hk))))
 have HO1_1 := Aside0.mk (show Kd.V (Kd.int .u32) 117 w w.heap.size (fun k_ => ((P0_1_ k_ ∨ P0_3_ k_ ∨ P1_1_ k_ ∨ P1_3_ k_) ∨ w.heap.size ≤ k_)) (.slice A1_1 l1_1.length c1_1) l1_1 from Kd.V_mono hs1_1 (fun k_ hk => .inl (.inr (.inr (.inl hk)))))
 have HO1_3 := Aside0.mk (show Kd.V (Kd.int .u32) 117 w w.heap.size (fun k_ => ((P0_1_ k_ ∨ P0_3_ k_ ∨ P1_1_ k_ ∨ P1_3_ k_) ∨ w.heap.size ≤ k_)) (.slice A1_3 l1_3.length c1_3) l1_3 from Kd.V_mono hs1_3 (fun k_ hk => .inl (.inr (.inr (.inr hk)))))
 have HB := Aside0.mk (Below.refl w.heap.size w)
 have H : ((fracK_Cmp.f k a0_0 l0_1 a0_2 l0_3 a1_0 l1_1 a1_2 l1_3).bind fun t649 => (if t649 ≤ 0 then ((fracK_Canonical.f k a0_0 l0_1 a0_2 l0_3).bind fun bt650 => (some (bt650.1, bt650.2.1, bt650.2.2.1, bt650.2.2.2))) else ((fracK_Canonical.f k a1_0 l1_1 a1_2 l1_3).bind fun bt658 => (some (bt658.1, bt658.2.1, bt658.2.2.1, bt658.2.2.2))))) = some (r1, r2, r3, r4) := h
 clear h
 replace H := Option.bind_eq_some_iff.mp H
 obtain ⟨t649, A30, H⟩ := H
 replace H : (if t649 ≤ 0 then ((fracK_Canonical.f k a0_0 l0_1 a0_2 l0_3).bind fun bt650 => (some (bt650.1, bt650.2.1, bt650.2.2.1, bt650.2.2.2))) else ((fracK_Canonical.f k a1_0 l1_1 a1_2 l1_3).bind fun bt658 => (some (bt658.1, bt658.2.1, bt658.2.2.1, bt658.2.2.2)))) = some (r1, r2, r3, r4) := H
 have A3 := Aside0.mk A30
 clear A30
 by_cases c4 : t649 ≤ 0
 ·rw [if_pos c4] at H
  have c4b0 : decide (t649 ≤ 0) = true := decide_eq_true c4
  clear c4
  replace H := Option.bind_eq_some_iff.mp H
  obtain ⟨⟨t650, t651, t654, t655⟩, A50, H⟩ := H
  replace H : (some (t650, t651, t654, t655)) = some (r1, r2, r3, r4) := H
  have A5 := Aside0.mk A50
  clear A50
  simp only [Option.some.injEq, Prod.mk.injEq] at H
  obtain ⟨rfl, rfl, rfl, rfl⟩ := H
  go_enter Try.func78, Try.ntmps78
  go_wp2_with (first | ((with_reducible refine gate_dst (N := 2) rfl ?_); refine box_event ?hg (N := 2) ?hd (cs := #[.bool a0_0, .slice A0_1 l0_1.length c0_1, .bool a0_2, .slice A0_3 l0_3.length c0_3]) (t := 66) ?hr ?_; (case hd => rfl); (case hg => rfl); (case hr => exact hr_); intro gb646 hg w6 hbox hb; have BK646 := Aside0.mk (hbox); replace HO0_1 := vE_ HO0_1 hg hb; replace HO0_3 := vE_ HO0_3 hg hb; replace HO1_1 := vE_ HO1_1 hg hb; replace HO1_3 := vE_ HO1_3 hg hb; replace HB := Aside0.mk (below_step m_1 hb); clear hb hbox hg) | ((with_reducible refine gate_dst (N := 3) rfl ?_); refine box_event ?hg (N := 3) ?hd (cs := #[.bool a1_0, .slice A1_1 l1_1.length c1_1, .bool a1_2, .slice A1_3 l1_3.length c1_3]) (t := 66) ?hr ?_; (case hd => rfl); (case hg => rfl); (case hr => exact hr_); intro gb647 hg w7 hbox hb; have BK647 := Aside0.mk (hbox); replace HO0_1 := vE_ HO0_1 hg hb; replace HO0_3 := vE_ HO0_3 hg hb; replace HO1_1 := vE_ HO1_1 hg hb; replace HO1_3 := vE_ HO1_3 hg hb; replace BK646 := bB_ BK646 hb; replace HB := Aside0.mk (below_step m_55 hb); clear hb hbox hg) | ((with_reducible refine gate_dst (N := 4) rfl ?_); refine box_event ?hg (N := 4) ?hd (cs := #[.bool false, .slice none 0 0, .bool false, .slice none 0 0]) (t := 66) ?hr ?_; (case hd => rfl); (case hg => rfl); (case hr => exact hr_); intro gb648 hg w8 hbox hb; have BK648 := Aside0.mk (hbox); have GE648 := gW_ (w := w) hg m_49; replace HO0_1 := vE_ HO0_1 hg hb; replace HO0_3 := vE_ HO0_3 hg hb; replace HO1_1 := vE_ HO1_1 hg hb; replace HO1_3 := vE_ HO1_3 hg hb; replace BK646 := bB_ BK646 hb; replace BK647 := bB_ BK647 hb; replace HB := Aside0.mk (below_step m_49 hb); clear hb hbox hg; obtain ⟨hcz11_0, hcz11_1, hcz11_2, hcz11_3, hfz11_0, hfz11_1, hfz11_2, hfz11_3⟩ := cf4_ BK646; obtain ⟨hcz13_0, hcz13_1, hcz13_2, hcz13_3, hfz13_0, hfz13_1, hfz13_2, hfz13_3⟩ := cf4_ BK647) | ((with_reducible refine gate_callee (f := 64) rfl ?_); refine goesL_ (some 7) rfl rfl Try.func64 m_13 rfl #[.agg #[.bool a0_0, .slice A0_1 l0_1.length c0_1, .bool a0_2, .slice A0_3 l0_3.length c0_3], .agg #[.bool a1_0, .slice A1_1 l1_1.length c1_1, .bool a1_2, .slice A1_3 l1_3.length c1_3]] rfl m_2 ?_; (with_reducible refine (fracK_Cmp.calls k a0_0 _ _ l0_1 a0_2 _ _ l0_3 a1_0 _ _ l1_1 a1_2 _ _ l1_3 t649 _ ?side1 ?side2 ?side3 ?side4 ?side5 ?side6 ?side7 ?side8 A3.out).mono ?_); (case side1 => exact cA_ (Kd.V_reads' HO0_1.out).2.2); (case side2 => exact (Kd.V_reads' HO0_1.out).2.1); (case side3 => exact cA_ (Kd.V_reads' HO0_3.out).2.2); (case side4 => exact (Kd.V_reads' HO0_3.out).2.1); (case side5 => exact cA_ (Kd.V_reads' HO1_1.out).2.2); (case side6 => exact (Kd.V_reads' HO1_1.out).2.1); (case side7 => exact cA_ (Kd.V_reads' HO1_3.out).2.2); (case side8 => exact (Kd.V_reads' HO1_3.out).2.1); rintro e w14 ⟨rfl, hb⟩; refine ⟨_, rfl, ?_⟩; replace HO0_1 := vB_ HO0_1 hb; replace HO0_3 := vB_ HO0_3 hb; replace BK646 := bB_ BK646 hb; replace BK647 := bB_ BK647 hb; replace BK648 := bB_ BK648 hb; replace HB := Aside0.mk (below_step m_18 hb); clear hb; obtain ⟨hcz15_0, hcz15_1, hcz15_2, hcz15_3, hfz15_0, hfz15_1, hfz15_2, hfz15_3⟩ := cf4_ BK646) | ((with_reducible refine gate_callee (f := 97) rfl ?_); refine goesL_ (some 10) rfl rfl Try.func97 m_13 rfl #[.agg #[.bool a0_0, .slice A0_1 l0_1.length c0_1, .bool a0_2, .slice A0_3 l0_3.length c0_3]] rfl m_2 ?_; (with_reducible refine (fracK_Canonical.calls k a0_0 (fun k_ => (((((P0_1_ k_ ∨ P0_3_ k_ ∨ P1_1_ k_ ∨ P1_3_ k_) ∨ w.heap.size ≤ k_) ∧ k_ ≠ gb646) ∧ k_ ≠ gb647) ∧ k_ ≠ gb648)) _ _ l0_1 a0_2 (fun k_ => (((((P0_1_ k_ ∨ P0_3_ k_ ∨ P1_1_ k_ ∨ P1_3_ k_) ∨ w.heap.size ≤ k_) ∧ k_ ≠ gb646) ∧ k_ ≠ gb647) ∧ k_ ≠ gb648)) _ _ l0_3 t650 t651 t654 t655 _ ?side1 ?side2 A5.out).mono ?_); (case side1 => exact HO0_1.out); (case side2 => exact HO0_3.out); rintro e w16 ⟨v652, v656, rfl, ho0, ho1, hb⟩; refine ⟨_, rfl, ?_⟩; have HO653 := Aside0.mk (Kd.V_lower (Kd.V_mono (ok' := fun k_ => (w.heap.size ≤ k_) ∧ k_ ≠ gb646 ∧ k_ ≠ gb647 ∧ k_ ≠ gb648) ho0 (fun k_ hk_ => ⟨((fun hn_ => ((Nat.le_trans (below_size m_18) hn_))) hk_), ((fun hn_ => (Kd.freshB (bA_ BK646.out) k_ hn_)) hk_), ((fun hn_ => (Kd.freshB (bA_ BK647.out) k_ hn_)) hk_), ((fun hn_ => (Kd.freshB (bA_ BK648.out) k_ hn_)) hk_)⟩)) (below_size m_18)); have HO657 := Aside0.mk (Kd.V_lower (Kd.V_mono (ok' := fun k_ => (w.heap.size ≤ k_) ∧ k_ ≠ gb646 ∧ k_ ≠ gb647 ∧ k_ ≠ gb648) ho1 (fun k_ hk_ => ⟨((fun hn_ => ((Nat.le_trans (below_size m_18) hn_))) hk_), ((fun hn_ => (Kd.freshB (bA_ BK646.out) k_ hn_)) hk_), ((fun hn_ => (Kd.freshB (bA_ BK647.out) k_ hn_)) hk_), ((fun hn_ => (Kd.freshB (bA_ BK648.out) k_ hn_)) hk_)⟩)) (below_size m_18)); replace BK648 := bB_ BK648 hb; replace HB := Aside0.mk (below_step m_18 hb); clear hb; (try clear ho0); (try clear ho1); obtain ⟨hcz17_0, hcz17_1, hcz17_2, hcz17_3, hfz17_0, hfz17_1, hfz17_2, hfz17_3⟩ := cf4_ BK648; obtain ⟨Ao18, co18, eo18⟩ := Kd.V_slice HO653.out; subst eo18; obtain ⟨Ao19, co19, eo19⟩ := Kd.V_slice HO657.out; subst eo19))
  refine bodyPost_ret (results_cell_row rfl _ _ gb648 66 #[.bool t650, .slice Ao18 t651.length co18, .bool t654, .slice Ao19 t655.length co19] (0, 0) _ rfl (by (with_reducible repeat (first | refine blk_drewN ?_ _ | refine blk_drew ?_ | refine blk_alloc ?_ _)); refine blk_put (cs := #[.bool t650, .slice Ao18 t651.length co18, .bool t654, .slice none 0 0]) ?_ 3 _ rfl; (with_reducible repeat (first | refine blk_drewN ?_ _ | refine blk_drew ?_ | refine blk_alloc ?_ _)); refine blk_put (cs := #[.bool t650, .slice Ao18 t651.length co18, .bool false, .slice none 0 0]) ?_ 2 _ rfl; (with_reducible repeat (first | refine blk_drewN ?_ _ | refine blk_drew ?_ | refine blk_alloc ?_ _)); refine blk_put (cs := #[.bool t650, .slice none 0 0, .bool false, .slice none 0 0]) ?_ 1 _ rfl; (with_reducible repeat (first | refine blk_drewN ?_ _ | refine blk_drew ?_ | refine blk_alloc ?_ _)); refine blk_put (cs := #[.bool false, .slice none 0 0, .bool false, .slice none 0 0]) ?_ 0 _ rfl; (with_reducible repeat (first | refine blk_drewN ?_ _ | refine blk_drew ?_ | refine blk_alloc ?_ _)); exact BK648.out) Try.underlying66 rfl m_13) rfl ?_
  exact ⟨_, _, m_5, (by (with_reducible repeat (first | apply Kd.V_alloc | apply Kd.V_drewN | apply Kd.V_drew)); exact Kd.V_mono (Kd.V_far (p := ⟨gb648, 3, none⟩) (Kd.V_far (p := ⟨gb648, 2, none⟩) (Kd.V_far (p := ⟨gb648, 1, none⟩) (Kd.V_far (p := ⟨gb648, 0, none⟩) (Kd.V_mono HO653.out (fun k_ hk => (⟨hk, hk.2.2.2⟩ : _ ∧ k_ ≠ gb648))) (fun _ hk => hk.2) (.bool t650)) (fun _ hk => hk.2) (.slice Ao18 t651.length co18)) (fun _ hk => hk.2) (.bool t654)) (fun _ hk => hk.2) (.slice Ao19 t655.length co19)) (fun _ hk => hk.1.1)), (by (with_reducible repeat (first | apply Kd.V_alloc | apply Kd.V_drewN | apply Kd.V_drew)); exact Kd.V_mono (Kd.V_far (p := ⟨gb648, 3, none⟩) (Kd.V_far (p := ⟨gb648, 2, none⟩) (Kd.V_far (p := ⟨gb648, 1, none⟩) (Kd.V_far (p := ⟨gb648, 0, none⟩) (Kd.V_mono HO657.out (fun k_ hk => (⟨hk, hk.2.2.2⟩ : _ ∧ k_ ≠ gb648))) (fun _ hk => hk.2) (.bool t650)) (fun _ hk => hk.2) (.slice Ao18 t651.length co18)) (fun _ hk => hk.2) (.bool t654)) (fun _ hk => hk.2) (.slice Ao19 t655.length co19)) (fun _ hk => hk.1.1)), m_18⟩
 ·rw [if_neg c4] at H
  have c4b0 : decide (t649 ≤ 0) = false := decide_eq_false c4
  clear c4
  replace H := Option.bind_eq_some_iff.mp H
  obtain ⟨⟨t658, t659, t662, t663⟩, A200, H⟩ := H
  replace H : (some (t658, t659, t662, t663)) = some (r1, r2, r3, r4) := H
  have A20 := Aside0.mk A200
  clear A200
  simp only [Option.some.injEq, Prod.mk.injEq] at H
  obtain ⟨rfl, rfl, rfl, rfl⟩ := H
  go_enter Try.func78, Try.ntmps78
  go_wp2_with (first | ((with_reducible refine gate_dst (N := 2) rfl ?_); refine box_event ?hg (N := 2) ?hd (cs := #[.bool a0_0, .slice A0_1 l0_1.length c0_1, .bool a0_2, .slice A0_3 l0_3.length c0_3]) (t := 66) ?hr ?_; (case hd => rfl); (case hg => rfl); (case hr => exact hr_); intro gb646 hg w21 hbox hb; have BK646 := Aside0.mk (hbox); replace HO0_1 := vE_ HO0_1 hg hb; replace HO0_3 := vE_ HO0_3 hg hb; replace HO1_1 := vE_ HO1_1 hg hb; replace HO1_3 := vE_ HO1_3 hg hb; replace HB := Aside0.mk (below_step m_1 hb); clear hb hbox hg) | ((with_reducible refine gate_dst (N := 3) rfl ?_); refine box_event ?hg (N := 3) ?hd (cs := #[.bool a1_0, .slice A1_1 l1_1.length c1_1, .bool a1_2, .slice A1_3 l1_3.length c1_3]) (t := 66) ?hr ?_; (case hd => rfl); (case hg => rfl); (case hr => exact hr_); intro gb647 hg w22 hbox hb; have BK647 := Aside0.mk (hbox); replace HO0_1 := vE_ HO0_1 hg hb; replace HO0_3 := vE_ HO0_3 hg hb; replace HO1_1 := vE_ HO1_1 hg hb; replace HO1_3 := vE_ HO1_3 hg hb; replace BK646 := bB_ BK646 hb; replace HB := Aside0.mk (below_step m_55 hb); clear hb hbox hg) | ((with_reducible refine gate_dst (N := 4) rfl ?_); refine box_event ?hg (N := 4) ?hd (cs := #[.bool false, .slice none 0 0, .bool false, .slice none 0 0]) (t := 66) ?hr ?_; (case hd => rfl); (case hg => rfl); (case hr => exact hr_); intro gb648 hg w23 hbox hb; have BK648 := Aside0.mk (hbox); have GE648 := gW_ (w := w) hg m_49; replace HO0_1 := vE_ HO0_1 hg hb; replace HO0_3 := vE_ HO0_3 hg hb; replace HO1_1 := vE_ HO1_1 hg hb; replace HO1_3 := vE_ HO1_3 hg hb; replace BK646 := bB_ BK646 hb; replace BK647 := bB_ BK647 hb; replace HB := Aside0.mk (below_step m_49 hb); clear hb hbox hg; obtain ⟨hcz26_0, hcz26_1, hcz26_2, hcz26_3, hfz26_0, hfz26_1, hfz26_2, hfz26_3⟩ := cf4_ BK646; obtain ⟨hcz28_0, hcz28_1, hcz28_2, hcz28_3, hfz28_0, hfz28_1, hfz28_2, hfz28_3⟩ := cf4_ BK647) | ((with_reducible refine gate_callee (f := 64) rfl ?_); refine goesL_ (some 7) rfl rfl Try.func64 m_13 rfl #[.agg #[.bool a0_0, .slice A0_1 l0_1.length c0_1, .bool a0_2, .slice A0_3 l0_3.length c0_3], .agg #[.bool a1_0, .slice A1_1 l1_1.length c1_1, .bool a1_2, .slice A1_3 l1_3.length c1_3]] rfl m_2 ?_; (with_reducible refine (fracK_Cmp.calls k a0_0 _ _ l0_1 a0_2 _ _ l0_3 a1_0 _ _ l1_1 a1_2 _ _ l1_3 t649 _ ?side1 ?side2 ?side3 ?side4 ?side5 ?side6 ?side7 ?side8 A3.out).mono ?_); (case side1 => exact cA_ (Kd.V_reads' HO0_1.out).2.2); (case side2 => exact (Kd.V_reads' HO0_1.out).2.1); (case side3 => exact cA_ (Kd.V_reads' HO0_3.out).2.2); (case side4 => exact (Kd.V_reads' HO0_3.out).2.1); (case side5 => exact cA_ (Kd.V_reads' HO1_1.out).2.2); (case side6 => exact (Kd.V_reads' HO1_1.out).2.1); (case side7 => exact cA_ (Kd.V_reads' HO1_3.out).2.2); (case side8 => exact (Kd.V_reads' HO1_3.out).2.1); rintro e w29 ⟨rfl, hb⟩; refine ⟨_, rfl, ?_⟩; replace HO1_1 := vB_ HO1_1 hb; replace HO1_3 := vB_ HO1_3 hb; replace BK646 := bB_ BK646 hb; replace BK647 := bB_ BK647 hb; replace BK648 := bB_ BK648 hb; replace HB := Aside0.mk (below_step m_18 hb); clear hb; obtain ⟨hcz30_0, hcz30_1, hcz30_2, hcz30_3, hfz30_0, hfz30_1, hfz30_2, hfz30_3⟩ := cf4_ BK647) | ((with_reducible refine gate_callee (f := 97) rfl ?_); refine goesL_ (some 12) rfl rfl Try.func97 m_13 rfl #[.agg #[.bool a1_0, .slice A1_1 l1_1.length c1_1, .bool a1_2, .slice A1_3 l1_3.length c1_3]] rfl m_2 ?_; (with_reducible refine (fracK_Canonical.calls k a1_0 (fun k_ => (((((P0_1_ k_ ∨ P0_3_ k_ ∨ P1_1_ k_ ∨ P1_3_ k_) ∨ w.heap.size ≤ k_) ∧ k_ ≠ gb646) ∧ k_ ≠ gb647) ∧ k_ ≠ gb648)) _ _ l1_1 a1_2 (fun k_ => (((((P0_1_ k_ ∨ P0_3_ k_ ∨ P1_1_ k_ ∨ P1_3_ k_) ∨ w.heap.size ≤ k_) ∧ k_ ≠ gb646) ∧ k_ ≠ gb647) ∧ k_ ≠ gb648)) _ _ l1_3 t658 t659 t662 t663 _ ?side1 ?side2 A20.out).mono ?_); (case side1 => exact HO1_1.out); (case side2 => exact HO1_3.out); rintro e w31 ⟨v660, v664, rfl, ho0, ho1, hb⟩; refine ⟨_, rfl, ?_⟩; have HO661 := Aside0.mk (Kd.V_lower (Kd.V_mono (ok' := fun k_ => (w.heap.size ≤ k_) ∧ k_ ≠ gb646 ∧ k_ ≠ gb647 ∧ k_ ≠ gb648) ho0 (fun k_ hk_ => ⟨((fun hn_ => ((Nat.le_trans (below_size m_18) hn_))) hk_), ((fun hn_ => (Kd.freshB (bA_ BK646.out) k_ hn_)) hk_), ((fun hn_ => (Kd.freshB (bA_ BK647.out) k_ hn_)) hk_), ((fun hn_ => (Kd.freshB (bA_ BK648.out) k_ hn_)) hk_)⟩)) (below_size m_18)); have HO665 := Aside0.mk (Kd.V_lower (Kd.V_mono (ok' := fun k_ => (w.heap.size ≤ k_) ∧ k_ ≠ gb646 ∧ k_ ≠ gb647 ∧ k_ ≠ gb648) ho1 (fun k_ hk_ => ⟨((fun hn_ => ((Nat.le_trans (below_size m_18) hn_))) hk_), ((fun hn_ => (Kd.freshB (bA_ BK646.out) k_ hn_)) hk_), ((fun hn_ => (Kd.freshB (bA_ BK647.out) k_ hn_)) hk_), ((fun hn_ => (Kd.freshB (bA_ BK648.out) k_ hn_)) hk_)⟩)) (below_size m_18)); replace BK648 := bB_ BK648 hb; replace HB := Aside0.mk (below_step m_18 hb); clear hb; (try clear ho0); (try clear ho1); obtain ⟨hcz32_0, hcz32_1, hcz32_2, hcz32_3, hfz32_0, hfz32_1, hfz32_2, hfz32_3⟩ := cf4_ BK648; obtain ⟨Ao33, co33, eo33⟩ := Kd.V_slice HO661.out; subst eo33; obtain ⟨Ao34, co34, eo34⟩ := Kd.V_slice HO665.out; subst eo34))
  refine bodyPost_ret (results_cell_row rfl _ _ gb648 66 #[.bool t658, .slice Ao33 t659.length co33, .bool t662, .slice Ao34 t663.length co34] (0, 0) _ rfl (by (with_reducible repeat (first | refine blk_drewN ?_ _ | refine blk_drew ?_ | refine blk_alloc ?_ _)); refine blk_put (cs := #[.bool t658, .slice Ao33 t659.length co33, .bool t662, .slice none 0 0]) ?_ 3 _ rfl; (with_reducible repeat (first | refine blk_drewN ?_ _ | refine blk_drew ?_ | refine blk_alloc ?_ _)); refine blk_put (cs := #[.bool t658, .slice Ao33 t659.length co33, .bool false, .slice none 0 0]) ?_ 2 _ rfl; (with_reducible repeat (first | refine blk_drewN ?_ _ | refine blk_drew ?_ | refine blk_alloc ?_ _)); refine blk_put (cs := #[.bool t658, .slice none 0 0, .bool false, .slice none 0 0]) ?_ 1 _ rfl; (with_reducible repeat (first | refine blk_drewN ?_ _ | refine blk_drew ?_ | refine blk_alloc ?_ _)); refine blk_put (cs := #[.bool false, .slice none 0 0, .bool false, .slice none 0 0]) ?_ 0 _ rfl; (with_reducible repeat (first | refine blk_drewN ?_ _ | refine blk_drew ?_ | refine blk_alloc ?_ _)); exact BK648.out) Try.underlying66 rfl m_13) rfl ?_
  exact ⟨_, _, m_5, (by (with_reducible repeat (first | apply Kd.V_alloc | apply Kd.V_drewN | apply Kd.V_drew)); exact Kd.V_mono (Kd.V_far (p := ⟨gb648, 3, none⟩) (Kd.V_far (p := ⟨gb648, 2, none⟩) (Kd.V_far (p := ⟨gb648, 1, none⟩) (Kd.V_far (p := ⟨gb648, 0, none⟩) (Kd.V_mono HO661.out (fun k_ hk => (⟨hk, hk.2.2.2⟩ : _ ∧ k_ ≠ gb648))) (fun _ hk => hk.2) (.bool t658)) (fun _ hk => hk.2) (.slice Ao33 t659.length co33)) (fun _ hk => hk.2) (.bool t662)) (fun _ hk => hk.2) (.slice Ao34 t663.length co34)) (fun _ hk => hk.1.1)), (by (with_reducible repeat (first | apply Kd.V_alloc | apply Kd.V_drewN | apply Kd.V_drew)); exact Kd.V_mono (Kd.V_far (p := ⟨gb648, 3, none⟩) (Kd.V_far (p := ⟨gb648, 2, none⟩) (Kd.V_far (p := ⟨gb648, 1, none⟩) (Kd.V_far (p := ⟨gb648, 0, none⟩) (Kd.V_mono HO665.out (fun k_ hk => (⟨hk, hk.2.2.2⟩ : _ ∧ k_ ≠ gb648))) (fun _ hk => hk.2) (.bool t658)) (fun _ hk => hk.2) (.slice Ao33 t659.length co33)) (fun _ hk => hk.2) (.bool t662)) (fun _ hk => hk.2) (.slice Ao34 t663.length co34)) (fun _ hk => hk.1.1)), m_18⟩
end Go.Proofs.Ytelklgdmhnkenaa.U
namespace Go.Proofs.Ytelklgdmhnkenaa.U
attribute [local go_sem] max2_int min2_int max_two min_two max_three min_three max_four min_four
def fracK_Sign.f (k : Nat) (a0_0 : Bool) (l0_1 : List Int) (a0_2 : Bool) (l0_3 : List Int) : Option (Int) := (fracK_of.f k a0_0 l0_1 a0_2 l0_3).bind fun bt502 => ((whole_Sign.f k bt502.1 bt502.2.1).bind fun t510 => (some t510))
set_option maxHeartbeats 8000000 in
set_option maxRecDepth 100000 in
theorem fracK_Sign.calls (k : Nat) (a0_0 : Bool) (A0_1 : Option Addr) (c0_1 : Nat) (l0_1 : List Int) (a0_2 : Bool) (A0_3 : Option Addr) (c0_3 : Nat) (l0_3 : List Int) (r : Int) (w : World) (hr0_1 : Kd.C (Kd.int .u32) w A0_1 l0_1.length l0_1) (hc0_1 : l0_1.length ≤ c0_1) (hr0_3 : Kd.C (Kd.int .u32) w A0_3 l0_3.length l0_3) (hc0_3 : l0_3.length ≤ c0_3) (h : fracK_Sign.f k a0_0 l0_1 a0_2 l0_3 = some r) :
  Calls Try.prog 77 #[.agg #[.bool a0_0, .slice A0_1 l0_1.length c0_1, .bool a0_2, .slice A0_3 l0_3.length c0_3]] w fun e w' => e = .returned (.int .i64 r) ∧ Below w.heap.size w w' := by
 have hfd : ∀ (a b : Bool) (A B : Option Addr) (n c m d : Nat) (w : World), (Instr.field 120 (.agg #[.bool a, .slice A n c, .bool b, .slice B m d]) 0).run Try.prog w = .ok (.agg #[.bool a, .slice A n c]) w := fun _ _ _ _ _ _ _ _ _ => by kernel_rfl
 have HR0_1 := Aside0.mk hr0_1
 have HC0_1 := Aside0.mk hc0_1
 clear hr0_1 hc0_1
 have HR0_3 := Aside0.mk hr0_3
 have HC0_3 := Aside0.mk hc0_3
 clear hr0_3 hc0_3
 have HB := Aside0.mk (Below.refl w.heap.size w)
 have H : ((fracK_of.f k a0_0 l0_1 a0_2 l0_3).bind fun bt502 => ((whole_Sign.f k bt502.1 bt502.2.1).bind fun t510 => (some t510))) = some r := h
 clear h
 replace H := Option.bind_eq_some_iff.mp H
 obtain ⟨⟨t502, t503, t506, t507⟩, A20, H⟩ := H
 replace H : ((whole_Sign.f k t502 t503).bind fun t510 => (some t510)) = some r := H
 have A2 := Aside0.mk A20
 clear A20
 replace H := Option.bind_eq_some_iff.mp H
 obtain ⟨t510, A30, H⟩ := H
 replace H : (some t510) = some r := H
 have A3 := Aside0.mk A30
 clear A30
 obtain rfl := Option.some.inj H
 go_enter Try.func77, Try.ntmps77
 go_wp2_with (first | ((with_reducible refine gate_dst (N := 1) rfl ?_); refine box_event ?hg (N := 1) ?hd (cs := #[.bool a0_0, .slice A0_1 l0_1.length c0_1, .bool a0_2, .slice A0_3 l0_3.length c0_3]) (t := 66) ?hr ?_; (case hd => rfl); (case hg => rfl); (case hr => exact hr_); intro gb501 hg w4 hbox hb; have BK501 := Aside0.mk (hbox); have GW501 := gW_ (w := w) hg m_1; replace HB := Aside0.mk (below_step m_1 hb); clear hb hbox hg; obtain ⟨hcz5_0, hcz5_1, hcz5_2, hcz5_3, hfz5_0, hfz5_1, hfz5_2, hfz5_3⟩ := cf4_ BK501) | ((with_reducible refine gate_callee (f := 82) rfl ?_); refine goesL_ (some 4) rfl rfl Try.func82 m_13 rfl #[.agg #[.bool a0_0, .slice A0_1 l0_1.length c0_1, .bool a0_2, .slice A0_3 l0_3.length c0_3]] rfl m_2 ?_; (with_reducible refine (fracK_of.calls k a0_0 (fun k_ => k_ < w.heap.size) _ _ l0_1 a0_2 (fun k_ => k_ < w.heap.size) _ _ l0_3 t502 t503 t506 t507 _ ?side1 ?side2 A2.out).mono ?_); (case side1 => exact Kd.V_mk HC0_1.out (Kd.F_below (Kd.C_F (Kd.heap_int .u32) HR0_1.out) m_48)); (case side2 => exact Kd.V_mk HC0_3.out (Kd.F_below (Kd.C_F (Kd.heap_int .u32) HR0_3.out) m_48)); rintro e w6 ⟨v504, v508, rfl, ho0, ho1, hb⟩; refine ⟨_, rfl, ?_⟩; have HO505 := Aside0.mk (Kd.V_lower (Kd.V_mono (ok' := fun k_ => k_ ≠ gb501) ho0 (fun k_ hk_ => Or.elim hk_ (fun hs_ => Or.elim hs_ (fun hs_ => fun e_ => Nat.not_le.2 hs_ (by rw [e_]; exact GW501.out)) (fun hs_ => fun e_ => Nat.not_le.2 hs_ (by rw [e_]; exact GW501.out))) (fun hn_ => (Kd.freshB (bA_ BK501.out) k_ hn_)))) (below_size m_48)); have HO509 := Aside0.mk (Kd.V_lower (Kd.V_mono (ok' := fun k_ => k_ ≠ gb501) ho1 (fun k_ hk_ => Or.elim hk_ (fun hs_ => Or.elim hs_ (fun hs_ => fun e_ => Nat.not_le.2 hs_ (by rw [e_]; exact GW501.out)) (fun hs_ => fun e_ => Nat.not_le.2 hs_ (by rw [e_]; exact GW501.out))) (fun hn_ => (Kd.freshB (bA_ BK501.out) k_ hn_)))) (below_size m_48)); replace HB := Aside0.mk (below_step m_48 hb); clear hb; (try clear ho0); (try clear ho1); obtain ⟨Ao7, co7, eo7⟩ := Kd.V_slice HO505.out; subst eo7; obtain ⟨Ap7, cp7, ep7⟩ := Kd.V_slice HO509.out; subst ep7) | ((with_reducible refine gate_callee (f := 96) rfl ?_); refine goesL_ (some 6) rfl rfl Try.func96 m_13 rfl #[.agg #[.bool t502, .slice Ao7 t503.length co7]] rfl m_2 ?_; (with_reducible refine (whole_Sign.calls k t502 _ _ t503 t510 _ ?side1 ?side2 A3.out).mono ?_); (case side1 => exact cA_ (Kd.V_reads' HO505.out).2.2); (case side2 => exact (Kd.V_reads' HO505.out).2.1); rintro e w8 ⟨rfl, hb⟩; refine ⟨_, rfl, ?_⟩; replace HB := Aside0.mk (below_step m_48 hb); clear hb))
 go_ret
 exact ⟨m_5, m_48⟩
end Go.Proofs.Ytelklgdmhnkenaa.U
namespace Go.Proofs.Ytelklgdmhnkenaa.U
attribute [local go_sem] max2_int min2_int max_two min_two max_three min_three max_four min_four
def fracK_FromInt64.f (k : Nat) (a0 : Int) : Option (Bool × List Int × Bool × List Int) := (whole_FromInt64.f k a0).bind fun bt371 => (some (bt371.1, bt371.2, false, ([] : List Int)))
set_option maxHeartbeats 8000000 in
set_option maxRecDepth 100000 in
theorem fracK_FromInt64.calls (k : Nat) (a0 : Int) (r1 : Bool) (r2 : List Int) (r3 : Bool) (r4 : List Int) (w : World) (h : fracK_FromInt64.f k a0 = some (r1, r2, r3, r4)) :
  Calls Try.prog 39 #[.int .i64 a0] w fun e w' => ∃ v1_ v3_ : Value, e = .returned (.agg #[.bool r1, v1_, .bool r3, v3_]) ∧ Kd.V (Kd.int .u32) 117 w' w.heap.size (fun k_ => (w.heap.size ≤ k_) ∧ some k_ ≠ (v3_ : Value).ownBlock) v1_ r2 ∧ Kd.R (Kd.int .u32) 117 w' w.heap.size (fun k_ => (w.heap.size ≤ k_)) v3_ r4 ∧ Below w.heap.size w w' := by
 have HB := Aside0.mk (Below.refl w.heap.size w)
 have H : ((whole_FromInt64.f k a0).bind fun bt371 => (some (bt371.1, bt371.2, false, ([] : List Int)))) = some (r1, r2, r3, r4) := h
 clear h
 replace H := Option.bind_eq_some_iff.mp H
 obtain ⟨⟨t371, t372⟩, A20, H⟩ := H
 replace H : (some (t371, t372, false, ([] : List Int))) = some (r1, r2, r3, r4) := H
 have A2 := Aside0.mk A20
 clear A20
 simp only [Option.some.injEq, Prod.mk.injEq] at H
 obtain ⟨rfl, rfl, rfl, rfl⟩ := H
 go_enter Try.func39, Try.ntmps39
 go_wp2_with (first | ((with_reducible refine gate_dst (N := 2) rfl ?_); refine box_event ?hg (N := 2) ?hd (cs := #[.bool false, .slice none 0 0, .bool false, .slice none 0 0]) (t := 66) ?hr ?_; (case hd => rfl); (case hg => rfl); (case hr => exact hr_); intro gb370 hg w3 hbox hb; have BK370 := Aside0.mk (hbox); have GE370 := gW_ (w := w) hg m_1; replace HB := Aside0.mk (below_step m_1 hb); clear hb hbox hg) | ((with_reducible refine gate_callee (f := 63) rfl ?_); refine goesL_ (some 4) rfl rfl Try.func63 m_13 rfl #[.int .i64 a0] rfl m_2 ?_; (with_reducible refine (whole_FromInt64.calls k a0 t371 t372 _ A2.out).mono ?_); rintro e w4 ⟨v373, rfl, ho0, hb⟩; refine ⟨_, rfl, ?_⟩; have HO374 := Aside0.mk (Kd.V_lower (Kd.V_mono (ok' := fun k_ => (w.heap.size ≤ k_) ∧ k_ ≠ gb370) ho0 (fun k_ hk_ => ⟨(Nat.le_trans (below_size m_75) hk_), (Kd.freshB (bA_ BK370.out) k_ hk_)⟩)) (below_size m_75)); replace BK370 := bB_ BK370 hb; replace HB := Aside0.mk (below_step m_75 hb); clear hb; (try clear ho0); obtain ⟨Ao5, co5, eo5⟩ := Kd.V_slice HO374.out; subst eo5; obtain ⟨hcz6_0, hcz6_1, hcz6_2, hcz6_3, hfz6_0, hfz6_1, hfz6_2, hfz6_3⟩ := cf4_ BK370))
 refine bodyPost_ret (results_cell_row rfl _ _ gb370 66 #[.bool t371, .slice Ao5 t372.length co5, .bool false, .slice none 0 0] (0, 0) _ rfl (by (with_reducible repeat (first | refine blk_drewN ?_ _ | refine blk_drew ?_ | refine blk_alloc ?_ _)); refine blk_put (cs := #[.bool t371, .slice Ao5 t372.length co5, .bool false, .slice none 0 0]) ?_ 3 _ rfl; (with_reducible repeat (first | refine blk_drewN ?_ _ | refine blk_drew ?_ | refine blk_alloc ?_ _)); refine blk_put (cs := #[.bool t371, .slice Ao5 t372.length co5, .bool false, .slice none 0 0]) ?_ 2 _ rfl; (with_reducible repeat (first | refine blk_drewN ?_ _ | refine blk_drew ?_ | refine blk_alloc ?_ _)); refine blk_put (cs := #[.bool t371, .slice none 0 0, .bool false, .slice none 0 0]) ?_ 1 _ rfl; (with_reducible repeat (first | refine blk_drewN ?_ _ | refine blk_drew ?_ | refine blk_alloc ?_ _)); refine blk_put (cs := #[.bool false, .slice none 0 0, .bool false, .slice none 0 0]) ?_ 0 _ rfl; (with_reducible repeat (first | refine blk_drewN ?_ _ | refine blk_drew ?_ | refine blk_alloc ?_ _)); exact BK370.out) Try.underlying66 rfl m_13) rfl ?_
 exact ⟨_, _, m_5, (by (with_reducible repeat (first | apply Kd.V_alloc | apply Kd.V_drewN | apply Kd.V_drew)); exact Kd.V_mono (Kd.V_far (p := ⟨gb370, 3, none⟩) (Kd.V_far (p := ⟨gb370, 2, none⟩) (Kd.V_far (p := ⟨gb370, 1, none⟩) (Kd.V_far (p := ⟨gb370, 0, none⟩) (Kd.V_mono HO374.out (fun k_ hk => (⟨hk, hk.2⟩ : _ ∧ k_ ≠ gb370))) (fun _ hk => hk.2) (.bool t371)) (fun _ hk => hk.2) (.slice Ao5 t372.length co5)) (fun _ hk => hk.2) (.bool false)) (fun _ hk => hk.2) (.slice none 0 0)) (fun _ hk => ⟨hk.1.1, (by simp [Value.ownBlock])⟩)), (by first | exact Kd.R_nil _ _ _ _ _ | exact Kd.N_nil _ _ _ _ _ | exact Kd.V_nil _ _ _ _ _ | exact Kd.Q_nil _ _ _ _ _ | exact Kd.S_nil _ _ _ _ _), m_75⟩
end Go.Proofs.Ytelklgdmhnkenaa.U
namespace Go.Proofs.Ytelklgdmhnkenaa.U
attribute [local go_sem] max2_int min2_int max_two min_two max_three min_three max_four min_four
def frac_does_1.f (k : Nat) (a0_0 : Bool) (l0_1 : List Int) (a0_2 : Bool) (l0_3 : List Int) (a1_0 : Bool) (l1_1 : List Int) (a1_2 : Bool) (l1_3 : List Int) : Option (Bool × List Int × Bool × List Int) := (whole_Mul.f k a0_0 l0_1 a1_2 l1_3).bind fun bt169 => ((whole_Mul.f k a1_0 l1_1 a0_2 l0_3).bind fun bt173 => ((whole_Add.f k bt169.1 bt169.2 bt173.1 bt173.2).bind fun bt177 => ((whole_Mul.f k a0_2 l0_3 a1_2 l1_3).bind fun bt181 => (some (bt177.1, bt177.2, bt181.1, bt181.2)))))
def frac_does_1.T1 : Bool × List (List Nat × List Nat) := (true, [([], []), ([0], [0]), ([], []), ([2], [2]), ([1, 3], [1, 3]), ([], []), ([5], [5]), ([], []), ([7], [7]), ([6, 8, 4], [6, 8]), ([4, 9, 9], [4, 9]), ([], []), ([11], [11]), ([], []), ([13], [13]), ([12, 14, 10], [12, 14]), ([10, 15], [10, 15]), ([16, 15, 0, 1, 2, 3, 4, 5, 6, 7, 8, 9, 10, 11, 12, 13, 14, 15, 16], [16])])
def frac_does_1.B1 : List Nat := [0, 1, 0, 4, 15, 0, 32, 0, 128, 511, 1023, 0, 2048, 0, 8192, 32767, 65535, 131071]
theorem frac_does_1.tab1 : rtab .any (opsOf Try.f98 1) = frac_does_1.T1 := by kernel_rfl
theorem frac_does_1.bits1 : waitsOk frac_does_1.T1.2 frac_does_1.B1 = true := by kernel_rfl
set_option maxHeartbeats 8000000 in
set_option maxRecDepth 100000 in
theorem frac_does_1.calls (k : Nat) (a0_0 : Bool) (P0_1_ : Nat → Prop) (A0_1 : Option Addr) (c0_1 : Nat) (l0_1 : List Int) (a0_2 : Bool) (P0_3_ : Nat → Prop) (A0_3 : Option Addr) (c0_3 : Nat) (l0_3 : List Int) (a1_0 : Bool) (P1_1_ : Nat → Prop) (A1_1 : Option Addr) (c1_1 : Nat) (l1_1 : List Int) (a1_2 : Bool) (P1_3_ : Nat → Prop) (A1_3 : Option Addr) (c1_3 : Nat) (l1_3 : List Int) (r1 : Bool) (r2 : List Int) (r3 : Bool) (r4 : List Int) (w : World) (hs0_1 : Kd.V (Kd.int .u32) 117 w w.heap.size (fun k_ => P0_1_ k_) (.slice A0_1 l0_1.length c0_1) l0_1) (hs0_3 : Kd.V (Kd.int .u32) 117 w w.heap.size (fun k_ => P0_3_ k_) (.slice A0_3 l0_3.length c0_3) l0_3) (hs1_1 : Kd.V (Kd.int .u32) 117 w w.heap.size (fun k_ => P1_1_ k_) (.slice A1_1 l1_1.length c1_1) l1_1) (hs1_3 : Kd.V (Kd.int .u32) 117 w w.heap.size (fun k_ => P1_3_ k_) (.slice A1_3 l1_3.length c1_3) l1_3) (h : frac_does_1.f k a0_0 l0_1 a0_2 l0_3 a1_0 l1_1 a1_2 l1_3 = some (r1, r2, r3, r4)) :
  Calls Try.prog 98 #[.agg #[.bool a0_0, .slice A0_1 l0_1.length c0_1, .bool a0_2, .slice A0_3 l0_3.length c0_3], .agg #[.bool a1_0, .slice A1_1 l1_1.length c1_1, .bool a1_2, .slice A1_3 l1_3.length c1_3]] w fun e w' => ∃ v1_ v3_ : Value, e = .returned (.agg #[.bool r1, v1_, .bool r3, v3_]) ∧ Kd.V (Kd.int .u32) 117 w' w.heap.size (fun k_ => ((P0_1_ k_ ∨ P0_3_ k_ ∨ P1_1_ k_ ∨ P1_3_ k_) ∨ w.heap.size ≤ k_)) v1_ r2 ∧ Kd.V (Kd.int .u32) 117 w' w.heap.size (fun k_ => ((P0_1_ k_ ∨ P0_3_ k_ ∨ P1_1_ k_ ∨ P1_3_ k_) ∨ w.heap.size ≤ k_)) v3_ r4 ∧ Below w.heap.size w w' := by
 have HO0_1 := Aside0.mk (show Kd.V (Kd.int .u32) 117 w w.heap.size (fun k_ => ((P0_1_ k_ ∨ P0_3_ k_ ∨ P1_1_ k_ ∨ P1_3_ k_) ∨ w.heap.size ≤ k_)) (.slice A0_1 l0_1.length c0_1) l0_1 from Kd.V_mono hs0_1 (fun k_ hk => .inl (.inl hk)))
 have HO0_3 := Aside0.mk (show Kd.V (Kd.int .u32) 117 w w.heap.size (fun k_ => ((P0_1_ k_ ∨ P0_3_ k_ ∨ P1_1_ k_ ∨ P1_3_ k_) ∨ w.heap.size ≤ k_)) (.slice A0_3 l0_3.length c0_3) l0_3 from Kd.V_mono hs0_3 (fun k_ hk => .inl (.inr (.inl hk))))
 have HO1_1 := Aside0.mk (show Kd.V (Kd.int .u32) 117 w w.heap.size (fun k_ => ((P0_1_ k_ ∨ P0_3_ k_ ∨ P1_1_ k_ ∨ P1_3_ k_) ∨ w.heap.size ≤ k_)) (.slice A1_1 l1_1.length c1_1) l1_1 from Kd.V_mono hs1_1 (fun k_ hk => .inl (.inr (.inr (.inl hk)))))
 have HO1_3 := Aside0.mk (show Kd.V (Kd.int .u32) 117 w w.heap.size (fun k_ => ((P0_1_ k_ ∨ P0_3_ k_ ∨ P1_1_ k_ ∨ P1_3_ k_) ∨ w.heap.size ≤ k_)) (.slice A1_3 l1_3.length c1_3) l1_3 from Kd.V_mono hs1_3 (fun k_ hk => .inl (.inr (.inr (.inr hk)))))
 have HB := Aside0.mk (Below.refl w.heap.size w)
 have H : ((whole_Mul.f k a0_0 l0_1 a1_2 l1_3).bind fun bt169 => ((whole_Mul.f k a1_0 l1_1 a0_2 l0_3).bind fun bt173 => ((whole_Add.f k bt169.1 bt169.2 bt173.1 bt173.2).bind fun bt177 => ((whole_Mul.f k a0_2 l0_3 a1_2 l1_3).bind fun bt181 => (some (bt177.1, bt177.2, bt181.1, bt181.2)))))) = some (r1, r2, r3, r4) := h
 clear h
 replace H := Option.bind_eq_some_iff.mp H
 obtain ⟨⟨t169, t170⟩, A30, H⟩ := H
 replace H : ((whole_Mul.f k a1_0 l1_1 a0_2 l0_3).bind fun bt173 => ((whole_Add.f k t169 t170 bt173.1 bt173.2).bind fun bt177 => ((whole_Mul.f k a0_2 l0_3 a1_2 l1_3).bind fun bt181 => (some (bt177.1, bt177.2, bt181.1, bt181.2))))) = some (r1, r2, r3, r4) := H
 have A3 := Aside0.mk A30
 clear A30
 replace H := Option.bind_eq_some_iff.mp H
 obtain ⟨⟨t173, t174⟩, A40, H⟩ := H
 replace H : ((whole_Add.f k t169 t170 t173 t174).bind fun bt177 => ((whole_Mul.f k a0_2 l0_3 a1_2 l1_3).bind fun bt181 => (some (bt177.1, bt177.2, bt181.1, bt181.2)))) = some (r1, r2, r3, r4) := H
 have A4 := Aside0.mk A40
 clear A40
 replace H := Option.bind_eq_some_iff.mp H
 obtain ⟨⟨t177, t178⟩, A50, H⟩ := H
 replace H : ((whole_Mul.f k a0_2 l0_3 a1_2 l1_3).bind fun bt181 => (some (t177, t178, bt181.1, bt181.2))) = some (r1, r2, r3, r4) := H
 have A5 := Aside0.mk A50
 clear A50
 replace H := Option.bind_eq_some_iff.mp H
 obtain ⟨⟨t181, t182⟩, A60, H⟩ := H
 replace H : (some (t177, t178, t181, t182)) = some (r1, r2, r3, r4) := H
 have A6 := Aside0.mk A60
 clear A60
 simp only [Option.some.injEq, Prod.mk.injEq] at H
 obtain ⟨rfl, rfl, rfl, rfl⟩ := H
 go_enter Try.func98, Try.ntmps98
 try go_wp2_with (first | ((with_reducible refine gate_dst (N := 2) rfl ?_); refine box_event ?hg (N := 2) ?hd (cs := #[.bool a0_0, .slice A0_1 l0_1.length c0_1, .bool a0_2, .slice A0_3 l0_3.length c0_3]) (t := 120) ?hr ?_; (case hd => rfl); (case hg => rfl); (case hr => exact hr_); intro gb166 hg w7 hbox hb; have BK166 := Aside0.mk (hbox); replace HO0_1 := vE_ HO0_1 hg hb; replace HO0_3 := vE_ HO0_3 hg hb; replace HO1_1 := vE_ HO1_1 hg hb; replace HO1_3 := vE_ HO1_3 hg hb; replace HB := Aside0.mk (below_step m_1 hb); clear hb hbox hg) | ((with_reducible refine gate_dst (N := 3) rfl ?_); refine box_event ?hg (N := 3) ?hd (cs := #[.bool a1_0, .slice A1_1 l1_1.length c1_1, .bool a1_2, .slice A1_3 l1_3.length c1_3]) (t := 120) ?hr ?_; (case hd => rfl); (case hg => rfl); (case hr => exact hr_); intro gb167 hg w8 hbox hb; have BK167 := Aside0.mk (hbox); replace HO0_1 := vE_ HO0_1 hg hb; replace HO0_3 := vE_ HO0_3 hg hb; replace HO1_1 := vE_ HO1_1 hg hb; replace HO1_3 := vE_ HO1_3 hg hb; replace BK166 := bB_ BK166 hb; replace HB := Aside0.mk (below_step m_111 hb); clear hb hbox hg) | ((with_reducible refine gate_dst (N := 4) rfl ?_); refine box_event ?hg (N := 4) ?hd (cs := #[.bool false, .slice none 0 0, .bool false, .slice none 0 0]) (t := 120) ?hr ?_; (case hd => rfl); (case hg => rfl); (case hr => exact hr_); intro gb168 hg w9 hbox hb; have BK168 := Aside0.mk (hbox); have GE168 := gW_ (w := w) hg m_90; have NB166_168 := nl_ BK166 hg; have NB167_168 := nl_ BK167 hg; replace HO0_1 := vE_ HO0_1 hg hb; replace HO0_3 := vE_ HO0_3 hg hb; replace HO1_1 := vE_ HO1_1 hg hb; replace HO1_3 := vE_ HO1_3 hg hb; replace BK166 := bB_ BK166 hb; replace BK167 := bB_ BK167 hb; replace HB := Aside0.mk (below_step m_90 hb); clear hb hbox hg))
 replace HO0_1 := vD_ HO0_1
 replace HO0_3 := vD_ HO0_3
 replace HO1_1 := vD_ HO1_1
 replace HO1_3 := vD_ HO1_3
 replace BK166 := bD_ BK166
 replace BK167 := bD_ BK167
 replace BK168 := bD_ BK168
 replace HB := Aside0.mk (below_drew1 HB.out)
 refine start_ (n := 18) (S := fun w' => w'.cell? ⟨gb166, 0, none⟩ = some (.bool a0_0) ∧ w'.cell? ⟨gb166, 1, none⟩ = some (.slice A0_1 l0_1.length c0_1) ∧ w'.cell? ⟨gb166, 2, none⟩ = some (.bool a0_2) ∧ w'.cell? ⟨gb166, 3, none⟩ = some (.slice A0_3 l0_3.length c0_3) ∧ w'.cell? ⟨gb167, 0, none⟩ = some (.bool a1_0) ∧ w'.cell? ⟨gb167, 1, none⟩ = some (.slice A1_1 l1_1.length c1_1) ∧ w'.cell? ⟨gb167, 2, none⟩ = some (.bool a1_2) ∧ w'.cell? ⟨gb167, 3, none⟩ = some (.slice A1_3 l1_3.length c1_3)) (ds := []) #[false, false, false, false, false, false, false, false, false, false, false, false, false, false, false, false, false, false] m_13 rfl rfl ⟨(blk_cell BK166.out 0).trans rfl, (blk_cell BK166.out 1).trans rfl, (blk_cell BK166.out 2).trans rfl, (blk_cell BK166.out 3).trans rfl, (blk_cell BK167.out 0).trans rfl, (blk_cell BK167.out 1).trans rfl, (blk_cell BK167.out 2).trans rfl, (blk_cell BK167.out 3).trans rfl⟩ (fun hHeld => ?_); refine with_tabW frac_does_1.tab1 frac_does_1.bits1 (fun HT_ HW_ => ?_)
 generalize w9.drew = w10 at HO0_1 HO0_3 HO1_1 HO1_3 BK166 BK167 BK168 HB hHeld ⊢
 refine pA_ 0 HT_.out ?_
 refine pA_ 2 HT_.out ?_
 refine pA_ 5 HT_.out ?_
 refine pA_ 7 HT_.out ?_
 refine pA_ 11 HT_.out ?_
 refine pA_ 13 HT_.out ?_
 refine tA_ 1 HT_.out HW_.out hHeld ?_
 refine tA_ 3 HT_.out HW_.out hHeld ?_
 refine tA_ 6 HT_.out HW_.out hHeld ?_
 refine tA_ 8 HT_.out HW_.out hHeld ?_
 refine tA_ 12 HT_.out HW_.out hHeld ?_
 refine tA_ 14 HT_.out HW_.out hHeld ?_
 refine cB_1 4 Try.func84 (args := #[.agg #[.bool a0_0, .slice A0_1 l0_1.length c0_1], .agg #[.bool a1_2, .slice A1_3 l1_3.length c1_3]]) ?_
 with_reducible refine (whole_Mul.calls k a0_0 (fun k_ => (((((P0_1_ k_ ∨ P0_3_ k_ ∨ P1_1_ k_ ∨ P1_3_ k_) ∨ w.heap.size ≤ k_) ∧ k_ ≠ gb166) ∧ k_ ≠ gb167) ∧ k_ ≠ gb168)) _ _ l0_1 a1_2 (fun k_ => (((((P0_1_ k_ ∨ P0_3_ k_ ∨ P1_1_ k_ ∨ P1_3_ k_) ∨ w.heap.size ≤ k_) ∧ k_ ≠ gb166) ∧ k_ ≠ gb167) ∧ k_ ≠ gb168)) _ _ l1_3 t169 t170 _ ?side1 ?side2 A3.out).mono ?_
 (case side1 => exact HO0_1.out)
 (case side2 => exact HO1_3.out)
 rintro e w11 ⟨v171, rfl, ho0, hb⟩
 refine ⟨_, rfl, ?_⟩
 have HO172 := Aside0.mk (Kd.V_lower (Kd.V_mono (ok' := fun k_ => ((P0_1_ k_ ∨ P0_3_ k_ ∨ P1_1_ k_ ∨ P1_3_ k_) ∨ w.heap.size ≤ k_) ∧ k_ ≠ gb166 ∧ k_ ≠ gb167 ∧ k_ ≠ gb168) ho0 (fun k_ hk_ => ⟨Or.elim hk_ (fun hs_ => Or.elim hs_ (fun hs_ => hs_.1.1.1) (fun hs_ => hs_.1.1.1)) (fun hn_ => (.inr (Nat.le_trans (below_size m_22) hn_))), Or.elim hk_ (fun hs_ => Or.elim hs_ (fun hs_ => hs_.1.1.2) (fun hs_ => hs_.1.1.2)) (fun hn_ => (Kd.freshB (bA_ BK166.out) k_ hn_)), Or.elim hk_ (fun hs_ => Or.elim hs_ (fun hs_ => hs_.1.2) (fun hs_ => hs_.1.2)) (fun hn_ => (Kd.freshB (bA_ BK167.out) k_ hn_)), Or.elim hk_ (fun hs_ => Or.elim hs_ (fun hs_ => hs_.2) (fun hs_ => hs_.2)) (fun hn_ => (Kd.freshB (bA_ BK168.out) k_ hn_))⟩)) (below_size m_22))
 replace HO0_3 := vB_ HO0_3 hb
 replace HO1_1 := vB_ HO1_1 hb
 replace HO1_3 := vB_ HO1_3 hb
 replace BK166 := bB_ BK166 hb
 replace BK167 := bB_ BK167 hb
 replace BK168 := bB_ BK168 hb
 replace HB := Aside0.mk (below_step m_22 hb)
 (try clear hb); (try clear hb2); (try clear hk); (try clear hi); (try clear ho0)
 refine nx_ ⟨(blk_cell BK166.out 0).trans rfl, (blk_cell BK166.out 1).trans rfl, (blk_cell BK166.out 2).trans rfl, (blk_cell BK166.out 3).trans rfl, (blk_cell BK167.out 0).trans rfl, (blk_cell BK167.out 1).trans rfl, (blk_cell BK167.out 2).trans rfl, (blk_cell BK167.out 3).trans rfl⟩ (fun hHeld => ?_)
 refine cB_1 9 Try.func84 (args := #[.agg #[.bool a1_0, .slice A1_1 l1_1.length c1_1], .agg #[.bool a0_2, .slice A0_3 l0_3.length c0_3]]) ?_
 with_reducible refine (whole_Mul.calls k a1_0 (fun k_ => (((((P0_1_ k_ ∨ P0_3_ k_ ∨ P1_1_ k_ ∨ P1_3_ k_) ∨ w.heap.size ≤ k_) ∧ k_ ≠ gb166) ∧ k_ ≠ gb167) ∧ k_ ≠ gb168)) _ _ l1_1 a0_2 (fun k_ => (((((P0_1_ k_ ∨ P0_3_ k_ ∨ P1_1_ k_ ∨ P1_3_ k_) ∨ w.heap.size ≤ k_) ∧ k_ ≠ gb166) ∧ k_ ≠ gb167) ∧ k_ ≠ gb168)) _ _ l0_3 t173 t174 _ ?side1 ?side2 A4.out).mono ?_
 (case side1 => exact HO1_1.out)
 (case side2 => exact HO0_3.out)
 rintro e w12 ⟨v175, rfl, ho0, hb⟩
 refine ⟨_, rfl, ?_⟩
 have HO176 := Aside0.mk (Kd.V_lower (Kd.V_mono (ok' := fun k_ => ((P0_1_ k_ ∨ P0_3_ k_ ∨ P1_1_ k_ ∨ P1_3_ k_) ∨ w.heap.size ≤ k_) ∧ k_ ≠ gb166 ∧ k_ ≠ gb167 ∧ k_ ≠ gb168) ho0 (fun k_ hk_ => ⟨Or.elim hk_ (fun hs_ => Or.elim hs_ (fun hs_ => hs_.1.1.1) (fun hs_ => hs_.1.1.1)) (fun hn_ => (.inr (Nat.le_trans (below_size m_22) hn_))), Or.elim hk_ (fun hs_ => Or.elim hs_ (fun hs_ => hs_.1.1.2) (fun hs_ => hs_.1.1.2)) (fun hn_ => (Kd.freshB (bA_ BK166.out) k_ hn_)), Or.elim hk_ (fun hs_ => Or.elim hs_ (fun hs_ => hs_.1.2) (fun hs_ => hs_.1.2)) (fun hn_ => (Kd.freshB (bA_ BK167.out) k_ hn_)), Or.elim hk_ (fun hs_ => Or.elim hs_ (fun hs_ => hs_.2) (fun hs_ => hs_.2)) (fun hn_ => (Kd.freshB (bA_ BK168.out) k_ hn_))⟩)) (below_size m_22))
 replace HO0_3 := vB_ HO0_3 hb
 replace HO1_3 := vB_ HO1_3 hb
 replace HO172 := vB_ HO172 hb
 replace BK166 := bB_ BK166 hb
 replace BK167 := bB_ BK167 hb
 replace BK168 := bB_ BK168 hb
 replace HB := Aside0.mk (below_step m_22 hb)
 (try clear hb); (try clear hb2); (try clear hk); (try clear hi); (try clear ho0)
 obtain ⟨Ao13, co13, eo13⟩ := Kd.V_slice HO172.out
 (first | subst eo13 | (injection eo13 with f1_ f2_ f3_; have f4_ := f1_.symm; have f5_ := f3_.symm; clear f1_ f2_ f3_; subst f4_; subst f5_))
 obtain ⟨Ao14, co14, eo14⟩ := Kd.V_slice HO176.out
 (first | subst eo14 | (injection eo14 with f1_ f2_ f3_; have f4_ := f1_.symm; have f5_ := f3_.symm; clear f1_ f2_ f3_; subst f4_; subst f5_))
 refine nx_ ⟨(blk_cell BK166.out 0).trans rfl, (blk_cell BK166.out 1).trans rfl, (blk_cell BK166.out 2).trans rfl, (blk_cell BK166.out 3).trans rfl, (blk_cell BK167.out 0).trans rfl, (blk_cell BK167.out 1).trans rfl, (blk_cell BK167.out 2).trans rfl, (blk_cell BK167.out 3).trans rfl⟩ (fun hHeld => ?_)
 refine cB_1 10 Try.func99 (args := #[.agg #[.bool t169, .slice Ao13 t170.length co13], .agg #[.bool t173, .slice Ao14 t174.length co14]]) ?_
 with_reducible refine (whole_Add.calls k t169 (fun k_ => (((P0_1_ k_ ∨ P0_3_ k_ ∨ P1_1_ k_ ∨ P1_3_ k_) ∨ w.heap.size ≤ k_) ∧ (k_ ≠ gb166 ∧ (k_ ≠ gb167 ∧ k_ ≠ gb168)))) _ _ t170 t173 (fun k_ => (((P0_1_ k_ ∨ P0_3_ k_ ∨ P1_1_ k_ ∨ P1_3_ k_) ∨ w.heap.size ≤ k_) ∧ (k_ ≠ gb166 ∧ (k_ ≠ gb167 ∧ k_ ≠ gb168)))) _ _ t174 t177 t178 _ ?side1 ?side2 A5.out).mono ?_
 (case side1 => exact HO172.out)
 (case side2 => exact HO176.out)
 rintro e w15 ⟨v179, rfl, ho0, hb⟩
 refine ⟨_, rfl, ?_⟩
 have HO180 := Aside0.mk (Kd.V_lower (Kd.V_mono (ok' := fun k_ => ((P0_1_ k_ ∨ P0_3_ k_ ∨ P1_1_ k_ ∨ P1_3_ k_) ∨ w.heap.size ≤ k_) ∧ k_ ≠ gb166 ∧ k_ ≠ gb167 ∧ k_ ≠ gb168) ho0 (fun k_ hk_ => ⟨Or.elim hk_ (fun hs_ => Or.elim hs_ (fun hs_ => hs_.1) (fun hs_ => hs_.1)) (fun hn_ => (.inr (Nat.le_trans (below_size m_22) hn_))), Or.elim hk_ (fun hs_ => Or.elim hs_ (fun hs_ => hs_.2.1) (fun hs_ => hs_.2.1)) (fun hn_ => (Kd.freshB (bA_ BK166.out) k_ hn_)), Or.elim hk_ (fun hs_ => Or.elim hs_ (fun hs_ => hs_.2.2.1) (fun hs_ => hs_.2.2.1)) (fun hn_ => (Kd.freshB (bA_ BK167.out) k_ hn_)), Or.elim hk_ (fun hs_ => Or.elim hs_ (fun hs_ => hs_.2.2.2) (fun hs_ => hs_.2.2.2)) (fun hn_ => (Kd.freshB (bA_ BK168.out) k_ hn_))⟩)) (below_size m_22))
 replace HO0_3 := vB_ HO0_3 hb
 replace HO1_3 := vB_ HO1_3 hb
 replace BK166 := bB_ BK166 hb
 replace BK167 := bB_ BK167 hb
 replace BK168 := bB_ BK168 hb
 replace HB := Aside0.mk (below_step m_22 hb)
 (try clear hb); (try clear hb2); (try clear hk); (try clear hi); (try clear ho0)
 refine nx_ ⟨(blk_cell BK166.out 0).trans rfl, (blk_cell BK166.out 1).trans rfl, (blk_cell BK166.out 2).trans rfl, (blk_cell BK166.out 3).trans rfl, (blk_cell BK167.out 0).trans rfl, (blk_cell BK167.out 1).trans rfl, (blk_cell BK167.out 2).trans rfl, (blk_cell BK167.out 3).trans rfl⟩ (fun hHeld => ?_)
 refine cB_1 15 Try.func84 (args := #[.agg #[.bool a0_2, .slice A0_3 l0_3.length c0_3], .agg #[.bool a1_2, .slice A1_3 l1_3.length c1_3]]) ?_
 with_reducible refine (whole_Mul.calls k a0_2 (fun k_ => (((((P0_1_ k_ ∨ P0_3_ k_ ∨ P1_1_ k_ ∨ P1_3_ k_) ∨ w.heap.size ≤ k_) ∧ k_ ≠ gb166) ∧ k_ ≠ gb167) ∧ k_ ≠ gb168)) _ _ l0_3 a1_2 (fun k_ => (((((P0_1_ k_ ∨ P0_3_ k_ ∨ P1_1_ k_ ∨ P1_3_ k_) ∨ w.heap.size ≤ k_) ∧ k_ ≠ gb166) ∧ k_ ≠ gb167) ∧ k_ ≠ gb168)) _ _ l1_3 t181 t182 _ ?side1 ?side2 A6.out).mono ?_
 (case side1 => exact HO0_3.out)
 (case side2 => exact HO1_3.out)
 rintro e w16 ⟨v183, rfl, ho0, hb⟩
 refine ⟨_, rfl, ?_⟩
 have HO184 := Aside0.mk (Kd.V_lower (Kd.V_mono (ok' := fun k_ => ((P0_1_ k_ ∨ P0_3_ k_ ∨ P1_1_ k_ ∨ P1_3_ k_) ∨ w.heap.size ≤ k_) ∧ k_ ≠ gb166 ∧ k_ ≠ gb167 ∧ k_ ≠ gb168) ho0 (fun k_ hk_ => ⟨Or.elim hk_ (fun hs_ => Or.elim hs_ (fun hs_ => hs_.1.1.1) (fun hs_ => hs_.1.1.1)) (fun hn_ => (.inr (Nat.le_trans (below_size m_22) hn_))), Or.elim hk_ (fun hs_ => Or.elim hs_ (fun hs_ => hs_.1.1.2) (fun hs_ => hs_.1.1.2)) (fun hn_ => (Kd.freshB (bA_ BK166.out) k_ hn_)), Or.elim hk_ (fun hs_ => Or.elim hs_ (fun hs_ => hs_.1.2) (fun hs_ => hs_.1.2)) (fun hn_ => (Kd.freshB (bA_ BK167.out) k_ hn_)), Or.elim hk_ (fun hs_ => Or.elim hs_ (fun hs_ => hs_.2) (fun hs_ => hs_.2)) (fun hn_ => (Kd.freshB (bA_ BK168.out) k_ hn_))⟩)) (below_size m_22))
 replace HO180 := vB_ HO180 hb
 replace BK166 := bB_ BK166 hb
 replace BK167 := bB_ BK167 hb
 replace BK168 := bB_ BK168 hb
 replace HB := Aside0.mk (below_step m_22 hb)
 (try clear hb); (try clear hb2); (try clear hk); (try clear hi); (try clear ho0)
 obtain ⟨Ao17, co17, eo17⟩ := Kd.V_slice HO184.out
 (first | subst eo17 | (injection eo17 with f1_ f2_ f3_; have f4_ := f1_.symm; have f5_ := f3_.symm; clear f1_ f2_ f3_; subst f4_; subst f5_))
 obtain ⟨Ao18, co18, eo18⟩ := Kd.V_slice HO180.out
 (first | subst eo18 | (injection eo18 with f1_ f2_ f3_; have f4_ := f1_.symm; have f5_ := f3_.symm; clear f1_ f2_ f3_; subst f4_; subst f5_))
 refine nx_ ⟨(blk_cell BK166.out 0).trans rfl, (blk_cell BK166.out 1).trans rfl, (blk_cell BK166.out 2).trans rfl, (blk_cell BK166.out 3).trans rfl, (blk_cell BK167.out 0).trans rfl, (blk_cell BK167.out 1).trans rfl, (blk_cell BK167.out 2).trans rfl, (blk_cell BK167.out 3).trans rfl⟩ (fun hHeld => ?_)
 refine pA_ 16 HT_.out ?_
 refine one_ (i := 17) (N := none) #[true, true, true, true, true, true, true, true, true, true, true, true, true, true, true, true, true, true] rfl rfl (one_of HT_.out m_13) (by decide) (fun K hK => ?_)
 have hs19 : w16.cell? ⟨gb168, 0, none⟩ = some (.bool false) := (blk_cell BK168.out 0).trans rfl
 have hfs19 := blk_frozen BK168.out 0
 have hs20 : w16.cell? ⟨gb168, 1, none⟩ = some (.slice none 0 0) := (blk_cell BK168.out 1).trans rfl
 have hfs20 := blk_frozen BK168.out 1
 have hs21 : w16.cell? ⟨gb168, 2, none⟩ = some (.bool false) := (blk_cell BK168.out 2).trans rfl
 have hfs21 := blk_frozen BK168.out 2
 have hs22 : w16.cell? ⟨gb168, 3, none⟩ = some (.slice none 0 0) := (blk_cell BK168.out 3).trans rfl
 have hfs22 := blk_frozen BK168.out 3
 refine skip_ (w1 := ?_) (by rfl) rfl ?_ ?_
 rotate_left
 ·go_simp
  rfl
 refine hK.out _ _ ⟨((cell_far (p := ⟨gb168, _, none⟩) NB166_168.out _).trans (((cell_far (p := ⟨gb168, _, none⟩) NB166_168.out _).trans (((cell_far (p := ⟨gb168, _, none⟩) NB166_168.out _).trans (((cell_far (p := ⟨gb168, _, none⟩) NB166_168.out _).trans (hHeld.1)))))))), ((cell_far (p := ⟨gb168, _, none⟩) NB166_168.out _).trans (((cell_far (p := ⟨gb168, _, none⟩) NB166_168.out _).trans (((cell_far (p := ⟨gb168, _, none⟩) NB166_168.out _).trans (((cell_far (p := ⟨gb168, _, none⟩) NB166_168.out _).trans (hHeld.2.1)))))))), ((cell_far (p := ⟨gb168, _, none⟩) NB166_168.out _).trans (((cell_far (p := ⟨gb168, _, none⟩) NB166_168.out _).trans (((cell_far (p := ⟨gb168, _, none⟩) NB166_168.out _).trans (((cell_far (p := ⟨gb168, _, none⟩) NB166_168.out _).trans (hHeld.2.2.1)))))))), ((cell_far (p := ⟨gb168, _, none⟩) NB166_168.out _).trans (((cell_far (p := ⟨gb168, _, none⟩) NB166_168.out _).trans (((cell_far (p := ⟨gb168, _, none⟩) NB166_168.out _).trans (((cell_far (p := ⟨gb168, _, none⟩) NB166_168.out _).trans (hHeld.2.2.2.1)))))))), ((cell_far (p := ⟨gb168, _, none⟩) NB167_168.out _).trans (((cell_far (p := ⟨gb168, _, none⟩) NB167_168.out _).trans (((cell_far (p := ⟨gb168, _, none⟩) NB167_168.out _).trans (((cell_far (p := ⟨gb168, _, none⟩) NB167_168.out _).trans (hHeld.2.2.2.2.1)))))))), ((cell_far (p := ⟨gb168, _, none⟩) NB167_168.out _).trans (((cell_far (p := ⟨gb168, _, none⟩) NB167_168.out _).trans (((cell_far (p := ⟨gb168, _, none⟩) NB167_168.out _).trans (((cell_far (p := ⟨gb168, _, none⟩) NB167_168.out _).trans (hHeld.2.2.2.2.2.1)))))))), ((cell_far (p := ⟨gb168, _, none⟩) NB167_168.out _).trans (((cell_far (p := ⟨gb168, _, none⟩) NB167_168.out _).trans (((cell_far (p := ⟨gb168, _, none⟩) NB167_168.out _).trans (((cell_far (p := ⟨gb168, _, none⟩) NB167_168.out _).trans (hHeld.2.2.2.2.2.2.1)))))))), ((cell_far (p := ⟨gb168, _, none⟩) NB167_168.out _).trans (((cell_far (p := ⟨gb168, _, none⟩) NB167_168.out _).trans (((cell_far (p := ⟨gb168, _, none⟩) NB167_168.out _).trans (((cell_far (p := ⟨gb168, _, none⟩) NB167_168.out _).trans (hHeld.2.2.2.2.2.2.2))))))))⟩ (fun hHeld => ?_)
 clear hK K
 refine done_ (done_of HT_.out m_13) ?_
 try go_wp2
 refine bodyPost_ret (results_cell_row rfl _ _ gb168 120 #[.bool t177, .slice Ao18 t178.length co18, .bool t181, .slice Ao17 t182.length co17] (0, 0) _ rfl (by (with_reducible repeat (first | refine blk_drewN ?_ _ | refine blk_drew ?_ | refine blk_alloc ?_ _)); refine blk_put (cs := #[.bool t177, .slice Ao18 t178.length co18, .bool t181, .slice none 0 0]) ?_ 3 _ rfl; (with_reducible repeat (first | refine blk_drewN ?_ _ | refine blk_drew ?_ | refine blk_alloc ?_ _)); refine blk_put (cs := #[.bool t177, .slice Ao18 t178.length co18, .bool false, .slice none 0 0]) ?_ 2 _ rfl; (with_reducible repeat (first | refine blk_drewN ?_ _ | refine blk_drew ?_ | refine blk_alloc ?_ _)); refine blk_put (cs := #[.bool t177, .slice none 0 0, .bool false, .slice none 0 0]) ?_ 1 _ rfl; (with_reducible repeat (first | refine blk_drewN ?_ _ | refine blk_drew ?_ | refine blk_alloc ?_ _)); refine blk_put (cs := #[.bool false, .slice none 0 0, .bool false, .slice none 0 0]) ?_ 0 _ rfl; (with_reducible repeat (first | refine blk_drewN ?_ _ | refine blk_drew ?_ | refine blk_alloc ?_ _)); exact BK168.out) Try.underlying120 rfl m_13) rfl ?_
 exact ⟨_, _, m_5, (by (with_reducible repeat (first | apply Kd.V_alloc | apply Kd.V_drewN | apply Kd.V_drew)); exact Kd.V_mono (Kd.V_far (p := ⟨gb168, 3, none⟩) (Kd.V_far (p := ⟨gb168, 2, none⟩) (Kd.V_far (p := ⟨gb168, 1, none⟩) (Kd.V_far (p := ⟨gb168, 0, none⟩) (Kd.V_mono HO180.out (fun k_ hk => (⟨hk, hk.2.2.2⟩ : _ ∧ k_ ≠ gb168))) (fun _ hk => hk.2) (.bool t177)) (fun _ hk => hk.2) (.slice Ao18 t178.length co18)) (fun _ hk => hk.2) (.bool t181)) (fun _ hk => hk.2) (.slice Ao17 t182.length co17)) (fun _ hk => hk.1.1)), (by (with_reducible repeat (first | apply Kd.V_alloc | apply Kd.V_drewN | apply Kd.V_drew)); exact Kd.V_mono (Kd.V_far (p := ⟨gb168, 3, none⟩) (Kd.V_far (p := ⟨gb168, 2, none⟩) (Kd.V_far (p := ⟨gb168, 1, none⟩) (Kd.V_far (p := ⟨gb168, 0, none⟩) (Kd.V_mono HO184.out (fun k_ hk => (⟨hk, hk.2.2.2⟩ : _ ∧ k_ ≠ gb168))) (fun _ hk => hk.2) (.bool t177)) (fun _ hk => hk.2) (.slice Ao18 t178.length co18)) (fun _ hk => hk.2) (.bool t181)) (fun _ hk => hk.2) (.slice Ao17 t182.length co17)) (fun _ hk => hk.1.1)), m_22⟩
end Go.Proofs.Ytelklgdmhnkenaa.U
