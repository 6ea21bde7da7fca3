/- pylonlaw26.awake() is true: the chapter's examples. -/
import Derived.Test.YtelklgdmhnkenaaGivenB
import Derived.Test.YtelklgdmhnkenaaUxf20
import Derived.Test.YtelklgdmhnkenaaUxf22
import Derived.Test.YtelklgdmhnkenaaUxf24
import Derived.Test.YtelklgdmhnkenaaUxf25
import Derived.Test.YtelklgdmhnkenaaUxf28
import Derived.Test.YtelklgdmhnkenaaUxf41
namespace Go.Proofs.Ytelklgdmhnkenaa.U
open Go.RowKit Go.Proofs.YtelklgdmhnkenaaW.PrintWords Go.Proofs.YtelklgdmhnkenaaW.PrintLast Go.Proofs.YtelklgdmhnkenaaW.PrintMore
set_option linter.unusedVariables false
set_option linter.unusedSimpArgs false

theorem blk_bools {W : World} {g : Nat} {bs : List Bool} (h : W.heap[g]? = some (.cells (bls bs).toArray 4 (0, 0))) (hl : bs.length ≤ 9223372036854775807) : Kd.C Kd.bool W (some ⟨g, 0, none⟩) bs.length bs := by
  refine ⟨rfl, hl, fun _ => ⟨_, rfl, fun j b hj => ⟨[.bool b], rfl, rfl, fun q u hq => ?_⟩⟩⟩
  obtain rfl : q = 0 := by
    have := (List.getElem?_eq_some_iff.1 hq).1
    simpa using this
  have : u = .bool b := by simpa using hq.symm
  subst this
  rw [show (Kd.bool).sz = 1 from rfl, Nat.mul_one, Nat.add_zero, add_plain, blk_cell h]
  simp [bls, hj]
theorem lit_bools (W : World) (bs : List Bool) (hl : bs.length ≤ 9223372036854775807) : Kd.C Kd.bool (W.alloc (.cells (bls bs).toArray 4)) (some ⟨W.heap.size, 0, none⟩) bs.length bs := blk_bools (blk_new W _) hl
theorem lit_rows2 {W : World} {g g1 g2 : Nat} {x y : List Bool} (h : W.heap[g]? = some (.cells #[.slice (some ⟨g1, 0, none⟩) x.length x.length, .slice (some ⟨g2, 0, none⟩) y.length y.length] 32 (0, 0))) (h1 : Kd.C Kd.bool W (some ⟨g1, 0, none⟩) x.length x) (h2 : Kd.C Kd.bool W (some ⟨g2, 0, none⟩) y.length y) :
    Kd.C (Kd.slice 4 Kd.bool) W (some ⟨g, 0, none⟩) 2 [x, y] := by
  refine ⟨rfl, by omega, fun _ => ⟨_, rfl, fun j p hj => ?_⟩⟩
  obtain rfl | rfl : j = 0 ∨ j = 1 := by
    have := (List.getElem?_eq_some_iff.1 hj).1
    simp at this
    omega
  · obtain rfl : x = p := by simpa using hj
    refine ⟨_, rfl, ⟨_, _, rfl, Nat.le_refl _, h1⟩, fun q u hq => ?_⟩
    obtain rfl : q = 0 := by
      have := (List.getElem?_eq_some_iff.1 hq).1
      simpa using this
    rw [show (Kd.slice 4 Kd.bool).sz = 1 from rfl, add_plain, blk_cell h]
    simpa using hq
  · obtain rfl : y = p := by simpa using hj
    refine ⟨_, rfl, ⟨_, _, rfl, Nat.le_refl _, h2⟩, fun q u hq => ?_⟩
    obtain rfl : q = 0 := by
      have := (List.getElem?_eq_some_iff.1 hq).1
      simpa using this
    rw [show (Kd.slice 4 Kd.bool).sz = 1 from rfl, add_plain, blk_cell h]
    simpa using hq

set_option maxHeartbeats 16000000 in
set_option maxRecDepth 100000 in
theorem awake_calls (w : World) : Calls Try.prog 17 #[] w fun e w' => e = .returned (.bool true) ∧ Below w.heap.size w w' := by
  have hu24 := Try.underlying24
  go_enter Try.func17, Try.ntmps17
  go_wp2_with fail
  refine (pylonlaw26_ex.calls 0 2 _ 2 2 5 3 0 (-1) _ rfl).mono ?_
  rintro e w1 ⟨v2, rfl, ho, hb1⟩
  obtain ⟨A, c, ev, hc, hC⟩ := Kd.R_reads ho
  obtain ⟨l, hl⟩ : ∃ l : List S99, l = [⟨5, 1⟩, ⟨4, 3⟩] := ⟨_, rfl⟩
  rw [← hl] at ev hc hC
  have HL := Aside0.mk hl
  have HC := Aside0.mk hc
  have HR := Aside0.mk hC
  have HB := Aside0.mk hb1
  clear hl hc hC ho hb1
  subst ev
  go_wp2_with fail
  obtain ⟨g, hg⟩ : ∃ g, g = w1.heap.size := ⟨_, rfl⟩
  obtain ⟨W0, hW⟩ : ∃ W, W = w1.alloc (.cells #[.int .i64 0, .int .i64 2, .slice A l.length c, .int .i64 2, .int .i64 2, .int .i64 5, .int .i64 3, .int .i64 0, .int .i64 (-1)] 24) := ⟨_, rfl⟩
  rw [← hg, ← hW]
  have HU0 := Aside0.mk (show W0.heap[g]? = some (.cells #[.int .i64 0, .int .i64 2, .slice A l.length c, .int .i64 2, .int .i64 2, .int .i64 5, .int .i64 3, .int .i64 0, .int .i64 (-1)] 24 (0, 0)) by rw [hW, hg]; exact blk_new _ _)
  have HB0 := Aside0.mk (show Below w.heap.size w W0 by rw [hW]; exact below_alloc HB.out _)
  have HR0 := Aside0.mk (show Kd.C k99 W0 A l.length l by rw [hW]; exact Kd.C_alloc HR.out _)
  clear hW hg HB HR

  refine (unit_Next.calls 20 0 2 A c l 2 2 5 3 0 (-1) 1 false 0 false _ HR0.out HC.out (by rw [HL.out]; decide +kernel)).mono ?_
  rintro e W1 ⟨rfl, hb⟩
  have HU1 := Aside0.mk (blk_below HU0.out hb)
  have HB1 := Aside0.mk (below_step HB0.out hb)
  have HR1 := Aside0.mk (Kd.C_below HR0.out hb)
  clear HU0 HB0 HR0 hb
  have u0 := (blk_cell HU1.out 0).trans rfl; have u1 := (blk_cell HU1.out 1).trans rfl; have u2 := (blk_cell HU1.out 2).trans rfl; have u3 := (blk_cell HU1.out 3).trans rfl; have u4 := (blk_cell HU1.out 4).trans rfl; have u5 := (blk_cell HU1.out 5).trans rfl; have u6 := (blk_cell HU1.out 6).trans rfl; have u7 := (blk_cell HU1.out 7).trans rfl; have u8 := (blk_cell HU1.out 8).trans rfl
  go_wp2_with fail
  refine (unit_Next.calls 20 0 2 A c l 2 2 5 3 0 (-1) 2 false (-1) true _ HR1.out HC.out (by rw [HL.out]; decide +kernel)).mono ?_
  rintro e W2 ⟨rfl, hb⟩
  have HU2 := Aside0.mk (blk_below HU1.out hb)
  have HB2 := Aside0.mk (below_step HB1.out hb)
  have HR2 := Aside0.mk (Kd.C_below HR1.out hb)
  clear HU1 HB1 HR1 hb
  clear u0 u1 u2 u3 u4 u5 u6 u7 u8
  have u0 := (blk_cell HU2.out 0).trans rfl; have u1 := (blk_cell HU2.out 1).trans rfl; have u2 := (blk_cell HU2.out 2).trans rfl; have u3 := (blk_cell HU2.out 3).trans rfl; have u4 := (blk_cell HU2.out 4).trans rfl; have u5 := (blk_cell HU2.out 5).trans rfl; have u6 := (blk_cell HU2.out 6).trans rfl; have u7 := (blk_cell HU2.out 7).trans rfl; have u8 := (blk_cell HU2.out 8).trans rfl
  go_wp2_with fail
  refine (unit_Next.calls 20 0 2 A c l 2 2 5 3 0 (-1) (-2) true 1 true _ HR2.out HC.out (by rw [HL.out]; decide +kernel)).mono ?_
  rintro e W3 ⟨rfl, hb⟩
  have HU3 := Aside0.mk (blk_below HU2.out hb)
  have HB3 := Aside0.mk (below_step HB2.out hb)
  have HR3 := Aside0.mk (Kd.C_below HR2.out hb)
  clear HU2 HB2 HR2 hb
  clear u0 u1 u2 u3 u4 u5 u6 u7 u8
  have u0 := (blk_cell HU3.out 0).trans rfl; have u1 := (blk_cell HU3.out 1).trans rfl; have u2 := (blk_cell HU3.out 2).trans rfl; have u3 := (blk_cell HU3.out 3).trans rfl; have u4 := (blk_cell HU3.out 4).trans rfl; have u5 := (blk_cell HU3.out 5).trans rfl; have u6 := (blk_cell HU3.out 6).trans rfl; have u7 := (blk_cell HU3.out 7).trans rfl; have u8 := (blk_cell HU3.out 8).trans rfl
  go_wp2_with fail
  obtain ⟨L, hLL⟩ : ∃ L : List (List Bool), L = [[false, false], [false, true]] := ⟨_, rfl⟩
  have HLL := Aside0.mk hLL
  clear hLL
  refine (unit_Schedules.calls 0 2 A c l 2 2 5 3 0 (-1) 2 L 0 _ HR3.out HC.out (by rw [HL.out, HLL.out]; decide +kernel)).mono ?_
  rintro e W4 ⟨v8, rfl, hs8, hb⟩
  have HU4 := Aside0.mk (blk_below HU3.out hb)
  have HB4 := Aside0.mk (below_step HB3.out hb)
  have HR4 := Aside0.mk (Kd.C_below HR3.out hb)
  clear HU3 HB3 HR3 hb
  clear u0 u1 u2 u3 u4 u5 u6 u7 u8
  obtain ⟨A8, c8, e8⟩ := Kd.S_slice hs8
  have HS4 := Aside0.mk hs8
  clear hs8
  subst e8
  have u0 := (blk_cell HU4.out 0).trans rfl; have u1 := (blk_cell HU4.out 1).trans rfl; have u2 := (blk_cell HU4.out 2).trans rfl; have u3 := (blk_cell HU4.out 3).trans rfl; have u4 := (blk_cell HU4.out 4).trans rfl; have u5 := (blk_cell HU4.out 5).trans rfl; have u6 := (blk_cell HU4.out 6).trans rfl; have u7 := (blk_cell HU4.out 7).trans rfl; have u8 := (blk_cell HU4.out 8).trans rfl
  go_wp2_with fail
  refine (unit_Check.calls 20 0 2 A c l 2 2 5 3 0 (-1) 1 0 _ HR4.out HC.out (by rw [HL.out]; decide +kernel)).mono ?_
  rintro e W5 ⟨rfl, hb⟩
  have HU5 := Aside0.mk (blk_below HU4.out hb)
  have HB5 := Aside0.mk (below_step HB4.out hb)
  have HR5 := Aside0.mk (Kd.C_below HR4.out hb)
  have HS5 := Aside0.mk (Kd.S_below HS4.out hb)
  clear HS4
  clear HU4 HB4 HR4 hb
  clear u0 u1 u2 u3 u4 u5 u6 u7 u8
  have u0 := (blk_cell HU5.out 0).trans rfl; have u1 := (blk_cell HU5.out 1).trans rfl; have u2 := (blk_cell HU5.out 2).trans rfl; have u3 := (blk_cell HU5.out 3).trans rfl; have u4 := (blk_cell HU5.out 4).trans rfl; have u5 := (blk_cell HU5.out 5).trans rfl; have u6 := (blk_cell HU5.out 6).trans rfl; have u7 := (blk_cell HU5.out 7).trans rfl; have u8 := (blk_cell HU5.out 8).trans rfl
  go_wp2_with fail
  refine (unit_Check.calls 20 0 2 A c l 2 2 5 3 0 (-1) 0 1 _ HR5.out HC.out (by rw [HL.out]; decide +kernel)).mono ?_
  rintro e W6 ⟨rfl, hb⟩
  have HU6 := Aside0.mk (blk_below HU5.out hb)
  have HB6 := Aside0.mk (below_step HB5.out hb)
  have HR6 := Aside0.mk (Kd.C_below HR5.out hb)
  have HS6 := Aside0.mk (Kd.S_below HS5.out hb)
  clear HS5
  clear HU5 HB5 HR5 hb
  clear u0 u1 u2 u3 u4 u5 u6 u7 u8
  have u0 := (blk_cell HU6.out 0).trans rfl; have u1 := (blk_cell HU6.out 1).trans rfl; have u2 := (blk_cell HU6.out 2).trans rfl; have u3 := (blk_cell HU6.out 3).trans rfl; have u4 := (blk_cell HU6.out 4).trans rfl; have u5 := (blk_cell HU6.out 5).trans rfl; have u6 := (blk_cell HU6.out 6).trans rfl; have u7 := (blk_cell HU6.out 7).trans rfl; have u8 := (blk_cell HU6.out 8).trans rfl
  go_wp2_with fail
  refine (unit_Max.calls 20 0 2 A c l 2 2 5 3 0 (-1) 9 _ HR6.out HC.out (by rw [HL.out]; decide +kernel)).mono ?_
  rintro e W7 ⟨rfl, hb⟩
  have HU7 := Aside0.mk (blk_below HU6.out hb)
  have HB7 := Aside0.mk (below_step HB6.out hb)
  have HR7 := Aside0.mk (Kd.C_below HR6.out hb)
  have HS7 := Aside0.mk (Kd.S_below HS6.out hb)
  clear HS6
  clear HU6 HB6 HR6 hb
  clear u0 u1 u2 u3 u4 u5 u6 u7 u8
  have u0 := (blk_cell HU7.out 0).trans rfl; have u1 := (blk_cell HU7.out 1).trans rfl; have u2 := (blk_cell HU7.out 2).trans rfl; have u3 := (blk_cell HU7.out 3).trans rfl; have u4 := (blk_cell HU7.out 4).trans rfl; have u5 := (blk_cell HU7.out 5).trans rfl; have u6 := (blk_cell HU7.out 6).trans rfl; have u7 := (blk_cell HU7.out 7).trans rfl; have u8 := (blk_cell HU7.out 8).trans rfl
  go_wp2_with fail
  refine (unit_Initial.calls 20 0 2 A c l 2 2 5 3 0 (-1) (-1) _ HR7.out HC.out (by rw [HL.out]; decide +kernel)).mono ?_
  rintro e W8 ⟨rfl, hb⟩
  have HU8 := Aside0.mk (blk_below HU7.out hb)
  have HB8 := Aside0.mk (below_step HB7.out hb)
  have HR8 := Aside0.mk (Kd.C_below HR7.out hb)
  have HS8 := Aside0.mk (Kd.S_below HS7.out hb)
  clear HS7
  clear HU7 HB7 HR7 hb
  clear u0 u1 u2 u3 u4 u5 u6 u7 u8
  have u0 := (blk_cell HU8.out 0).trans rfl; have u1 := (blk_cell HU8.out 1).trans rfl; have u2 := (blk_cell HU8.out 2).trans rfl; have u3 := (blk_cell HU8.out 3).trans rfl; have u4 := (blk_cell HU8.out 4).trans rfl; have u5 := (blk_cell HU8.out 5).trans rfl; have u6 := (blk_cell HU8.out 6).trans rfl; have u7 := (blk_cell HU8.out 7).trans rfl; have u8 := (blk_cell HU8.out 8).trans rfl
  go_wp2_with fail
  refine (unit_Feasible.calls 40 0 2 A c l 2 2 5 3 0 (-1) (some ⟨W8.heap.size, 0, none⟩) 5 [false, false, true, true, false] true _ (Kd.C_alloc HR8.out _) HC.out (lit_bools W8 [false, false, true, true, false] (by decide)) (Nat.le_refl _) (by rw [HL.out]; decide +kernel)).mono ?_
  rintro e W9 ⟨rfl, hb⟩
  have HU9 := Aside0.mk (blk_below HU8.out (below_step (below_alloc (Below.refl W8.heap.size W8) _) hb))
  have HB9 := Aside0.mk (below_step HB8.out (below_step (below_alloc (Below.refl W8.heap.size W8) _) hb))
  have HR9 := Aside0.mk (Kd.C_below HR8.out (below_step (below_alloc (Below.refl W8.heap.size W8) _) hb))
  have HS9 := Aside0.mk (Kd.S_below HS8.out (below_step (below_alloc (Below.refl W8.heap.size W8) _) hb))
  clear HS8
  clear HU8 HB8 HR8 hb
  clear u0 u1 u2 u3 u4 u5 u6 u7 u8
  have u0 := (blk_cell HU9.out 0).trans rfl; have u1 := (blk_cell HU9.out 1).trans rfl; have u2 := (blk_cell HU9.out 2).trans rfl; have u3 := (blk_cell HU9.out 3).trans rfl; have u4 := (blk_cell HU9.out 4).trans rfl; have u5 := (blk_cell HU9.out 5).trans rfl; have u6 := (blk_cell HU9.out 6).trans rfl; have u7 := (blk_cell HU9.out 7).trans rfl; have u8 := (blk_cell HU9.out 8).trans rfl
  go_wp2_with fail
  refine (unit_Feasible.calls 40 0 2 A c l 2 2 5 3 0 (-1) (some ⟨W9.heap.size, 0, none⟩) 2 [false, true] true _ (Kd.C_alloc HR9.out _) HC.out (lit_bools W9 [false, true] (by decide)) (Nat.le_refl _) (by rw [HL.out]; decide +kernel)).mono ?_
  rintro e W10 ⟨rfl, hb⟩
  have HU10 := Aside0.mk (blk_below HU9.out (below_step (below_alloc (Below.refl W9.heap.size W9) _) hb))
  have HB10 := Aside0.mk (below_step HB9.out (below_step (below_alloc (Below.refl W9.heap.size W9) _) hb))
  have HR10 := Aside0.mk (Kd.C_below HR9.out (below_step (below_alloc (Below.refl W9.heap.size W9) _) hb))
  have HS10 := Aside0.mk (Kd.S_below HS9.out (below_step (below_alloc (Below.refl W9.heap.size W9) _) hb))
  clear HS9
  clear HU9 HB9 HR9 hb
  clear u0 u1 u2 u3 u4 u5 u6 u7 u8
  have u0 := (blk_cell HU10.out 0).trans rfl; have u1 := (blk_cell HU10.out 1).trans rfl; have u2 := (blk_cell HU10.out 2).trans rfl; have u3 := (blk_cell HU10.out 3).trans rfl; have u4 := (blk_cell HU10.out 4).trans rfl; have u5 := (blk_cell HU10.out 5).trans rfl; have u6 := (blk_cell HU10.out 6).trans rfl; have u7 := (blk_cell HU10.out 7).trans rfl; have u8 := (blk_cell HU10.out 8).trans rfl
  go_wp2_with fail
  refine (unit_Feasible.calls 40 0 2 A c l 2 2 5 3 0 (-1) (some ⟨W10.heap.size, 0, none⟩) 1 [true] false _ (Kd.C_alloc HR10.out _) HC.out (lit_bools W10 [true] (by decide)) (Nat.le_refl _) (by rw [HL.out]; decide +kernel)).mono ?_
  rintro e W11 ⟨rfl, hb⟩
  have HU11 := Aside0.mk (blk_below HU10.out (below_step (below_alloc (Below.refl W10.heap.size W10) _) hb))
  have HB11 := Aside0.mk (below_step HB10.out (below_step (below_alloc (Below.refl W10.heap.size W10) _) hb))
  have HR11 := Aside0.mk (Kd.C_below HR10.out (below_step (below_alloc (Below.refl W10.heap.size W10) _) hb))
  have HS11 := Aside0.mk (Kd.S_below HS10.out (below_step (below_alloc (Below.refl W10.heap.size W10) _) hb))
  clear HS10
  clear HU10 HB10 HR10 hb
  clear u0 u1 u2 u3 u4 u5 u6 u7 u8
  have u0 := (blk_cell HU11.out 0).trans rfl; have u1 := (blk_cell HU11.out 1).trans rfl; have u2 := (blk_cell HU11.out 2).trans rfl; have u3 := (blk_cell HU11.out 3).trans rfl; have u4 := (blk_cell HU11.out 4).trans rfl; have u5 := (blk_cell HU11.out 5).trans rfl; have u6 := (blk_cell HU11.out 6).trans rfl; have u7 := (blk_cell HU11.out 7).trans rfl; have u8 := (blk_cell HU11.out 8).trans rfl
  go_wp2_with fail
  refine (unit_Feasible.calls 40 0 2 A c l 2 2 5 3 0 (-1) (some ⟨W11.heap.size, 0, none⟩) 3 [false, true, false] false _ (Kd.C_alloc HR11.out _) HC.out (lit_bools W11 [false, true, false] (by decide)) (Nat.le_refl _) (by rw [HL.out]; decide +kernel)).mono ?_
  rintro e W12 ⟨rfl, hb⟩
  have HU12 := Aside0.mk (blk_below HU11.out (below_step (below_alloc (Below.refl W11.heap.size W11) _) hb))
  have HB12 := Aside0.mk (below_step HB11.out (below_step (below_alloc (Below.refl W11.heap.size W11) _) hb))
  have HR12 := Aside0.mk (Kd.C_below HR11.out (below_step (below_alloc (Below.refl W11.heap.size W11) _) hb))
  have HS12 := Aside0.mk (Kd.S_below HS11.out (below_step (below_alloc (Below.refl W11.heap.size W11) _) hb))
  clear HS11
  clear HU11 HB11 HR11 hb
  clear u0 u1 u2 u3 u4 u5 u6 u7 u8
  have u0 := (blk_cell HU12.out 0).trans rfl; have u1 := (blk_cell HU12.out 1).trans rfl; have u2 := (blk_cell HU12.out 2).trans rfl; have u3 := (blk_cell HU12.out 3).trans rfl; have u4 := (blk_cell HU12.out 4).trans rfl; have u5 := (blk_cell HU12.out 5).trans rfl; have u6 := (blk_cell HU12.out 6).trans rfl; have u7 := (blk_cell HU12.out 7).trans rfl; have u8 := (blk_cell HU12.out 8).trans rfl
  go_wp2_with fail
  obtain ⟨V, hV⟩ : ∃ V, V = ((W12.alloc (.cells #[.bool false, .bool false] 4)).alloc (.cells #[.bool false, .bool true] 4)).alloc (.cells #[.slice (some ⟨W12.heap.size, 0, none⟩) 2 2, .slice (some ⟨W12.heap.size + 1, 0, none⟩) 2 2] 32) := ⟨_, rfl⟩
  rw [← hV]
  have hb : Below W12.heap.size W12 V := by rw [hV]; exact below_alloc (below_alloc (below_alloc (Below.refl _ _) _) _) _
  have k1 : V.heap[W12.heap.size]? = some (.cells (bls [false, false]).toArray 4 (0, 0)) := by rw [hV]; exact blk_alloc (blk_alloc (blk_new _ _) _) _
  have k2 : V.heap[W12.heap.size + 1]? = some (.cells (bls [false, true]).toArray 4 (0, 0)) := by rw [hV, show W12.heap.size + 1 = (W12.alloc (.cells #[.bool false, .bool false] 4)).heap.size by simp]; exact blk_alloc (blk_new _ _) _
  have k3 : V.heap[W12.heap.size + 1 + 1]? = some (.cells #[.slice (some ⟨W12.heap.size, 0, none⟩) 2 2, .slice (some ⟨W12.heap.size + 1, 0, none⟩) 2 2] 32 (0, 0)) := by rw [hV, show W12.heap.size + 1 + 1 = ((W12.alloc (.cells #[.bool false, .bool false] 4)).alloc (.cells #[.bool false, .bool true] 4)).heap.size by simp]; exact blk_new _ _
  have K := Aside0.mk (lit_rows2 (x := [false, false]) (y := [false, true]) k3 (blk_bools k1 (by decide)) (blk_bools k2 (by decide)))
  have HU13 := Aside0.mk (blk_below HU12.out hb)
  have HB13 := Aside0.mk (below_step HB12.out hb)
  have HR13 := Aside0.mk (Kd.C_below HR12.out hb)
  have HS13 := Aside0.mk (Kd.S_below HS12.out hb)
  clear hV hb k1 k2 k3 HU12 HB12 HR12 HS12
  refine (pylonref26_SameAll.calls 40 A8 c8 L (some ⟨W12.heap.size + 1 + 1, 0, none⟩) 2 [[false, false], [false, true]] true _ (Kd.S_reads' HS13.out).2.2 (Kd.S_reads' HS13.out).2.1 K.out (Nat.le_refl _) (by rw [HLL.out]; decide +kernel)).mono ?_
  rintro e W14 ⟨rfl, hd⟩
  have hb := hd.below; clear hd
  have HU14 := Aside0.mk (blk_below HU13.out hb)
  have HB14 := Aside0.mk (below_step HB13.out hb)
  have HR14 := Aside0.mk (Kd.C_below HR13.out hb)
  clear HU13 HB13 HR13 hb
  clear u0 u1 u2 u3 u4 u5 u6 u7 u8
  have u0 := (blk_cell HU14.out 0).trans rfl; have u1 := (blk_cell HU14.out 1).trans rfl; have u2 := (blk_cell HU14.out 2).trans rfl; have u3 := (blk_cell HU14.out 3).trans rfl; have u4 := (blk_cell HU14.out 4).trans rfl; have u5 := (blk_cell HU14.out 5).trans rfl; have u6 := (blk_cell HU14.out 6).trans rfl; have u7 := (blk_cell HU14.out 7).trans rfl; have u8 := (blk_cell HU14.out 8).trans rfl
  go_wp2_with fail
  refine (unit_Starts.calls 40 0 2 A c l 2 2 5 3 0 (-1) (some ⟨W14.heap.size, 0, none⟩) 2 [false, true] 1 _ (Kd.C_alloc HR14.out _) HC.out (lit_bools W14 [false, true] (by decide)) (Nat.le_refl _) (by rw [HL.out]; decide +kernel)).mono ?_
  rintro e W15 ⟨rfl, hb⟩
  have HU15 := Aside0.mk (blk_below HU14.out (below_step (below_alloc (Below.refl W14.heap.size W14) _) hb))
  have HB15 := Aside0.mk (below_step HB14.out (below_step (below_alloc (Below.refl W14.heap.size W14) _) hb))
  have HR15 := Aside0.mk (Kd.C_below HR14.out (below_step (below_alloc (Below.refl W14.heap.size W14) _) hb))
  clear HU14 HB14 HR14 hb
  clear u0 u1 u2 u3 u4 u5 u6 u7 u8
  have u0 := (blk_cell HU15.out 0).trans rfl; have u1 := (blk_cell HU15.out 1).trans rfl; have u2 := (blk_cell HU15.out 2).trans rfl; have u3 := (blk_cell HU15.out 3).trans rfl; have u4 := (blk_cell HU15.out 4).trans rfl; have u5 := (blk_cell HU15.out 5).trans rfl; have u6 := (blk_cell HU15.out 6).trans rfl; have u7 := (blk_cell HU15.out 7).trans rfl; have u8 := (blk_cell HU15.out 8).trans rfl
  go_wp2_with fail
  refine (unit_FixedCost.calls 40 0 2 A c l 2 2 5 3 0 (-1) (some ⟨W15.heap.size, 0, none⟩) 2 [false, true] 8 _ (Kd.C_alloc HR15.out _) HC.out (lit_bools W15 [false, true] (by decide)) (Nat.le_refl _) (by rw [HL.out]; decide +kernel)).mono ?_
  rintro e V2 ⟨rfl, hb⟩
  have HV := Aside0.mk (below_step HB15.out (below_step (below_alloc (Below.refl W15.heap.size W15) _) hb))
  clear hb u0 u1 u2 u3 u4 u5 u6 u7 u8
  go_wp2_with fail
  go_ret
  exact ⟨rfl, HV.out⟩
def pylonlaw26_awake.f : Option Bool := some true
theorem pylonlaw26_awake.calls (r : Bool) (w : World) (h : pylonlaw26_awake.f = some r) :
    Calls Try.prog 17 #[] w fun e w' => e = .returned (.bool r) ∧ Below w.heap.size w w' := by
  obtain rfl := Option.some.inj h
  exact awake_calls w
end Go.Proofs.Ytelklgdmhnkenaa.U
