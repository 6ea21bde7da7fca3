/- The EnergyOptimality law, for every input that can be read: the call returns true, and the arguments read afterwards as before. No condition. (Last of the texts of this proof.) -/
import Derived.Test.YtelklgdmhnkenaaMEOA
import Derived.Test.YtelklgdmhnkenaaMEOD
import Derived.Deep.Slices
import Derived.Deep.Fields
import Derived.ProofKit
import Derived.OpenShut
import Derived.ChangeOld
import Derived.SizedLaws
import Derived.Test.YtelklgdmhnkenaaRows
import Derived.WalkKit
import Derived.Below
set_option linter.unusedVariables false
set_option linter.unusedSimpArgs false
open Go.RowKit Go.Proofs.YtelklgdmhnkenaaW.PrintWords Go.Proofs.YtelklgdmhnkenaaW.PrintLast Go.Proofs.YtelklgdmhnkenaaW.PrintMore
namespace Go.Proofs.Ytelklgdmhnkenaa.U
attribute [local go_sem] max2_int min2_int max_two min_two max_three min_three max_four min_four
def energy_Allocate.f (k : Nat) (l0 : List S24) (l1 : List Bool) (a2 : Int) : Option (List Int × Int) := (energy_Range.f k l0 l1).bind fun bt =>
 if bt.2.2 = 0 then (if a2 < 0 then some ([], 1) else if a2 < bt.1 then some ([], 8) else if a2 > bt.2.1 then some ([], 8) else
  (if goodA l0 l1 (wrap64 (a2 - bt.1)) = true then some (allocRow l0 l1 (wrap64 (a2 - bt.1)), 0) else none)) else some ([], bt.2.2)
theorem drop24 {l0 : List S24} {j : Nat} (h : j < l0.length) : l0.drop j = rd_T24 l0 (j : Int) :: l0.drop (j + 1) := by
 rw [List.drop_eq_getElem_cons h]
 simp [rd_T24, h]
theorem dropB {l1 : List Bool} {j : Nat} (h : j < l1.length) : l1.drop j = rdOf false l1 (j : Int) :: l1.drop (j + 1) := by
 rw [List.drop_eq_getElem_cons h]
 simp [rdOf, h]
theorem fill_step {l0 : List S24} {l1 : List Bool} {j : Nat} {row : List Int} (h : j < l0.length) (h1 : j < l1.length) : fillR j (l0.drop j) (l1.drop j) row = fillR (j + 1) (l0.drop (j + 1)) (l1.drop (j + 1)) (if rdOf false l1 (j : Int) then row.set j (rd_T24 l0 (j : Int)).f1 else row) := by
 rw [drop24 h, dropB h1]
 rfl
theorem pieces_step {l0 : List S24} {l1 : List Bool} {j : Nat} (h : j < l0.length) (h1 : j < l1.length) : piecesOf j (l0.drop j) (l1.drop j) = (if rdOf false l1 (j : Int) then addS j (rd_T24 l0 (j : Int)).f1 (rd_T24 l0 (j : Int)).f2 else []) ++ piecesOf (j + 1) (l0.drop (j + 1)) (l1.drop (j + 1)) := by
 rw [drop24 h, dropB h1]
 rfl
theorem addS_len (a : Int) : ∀ (b : Int) (l : List S99), (addS a b l).length ≤ l.length
 | _, [] => Nat.le_refl _
 | b, s :: l => by
  unfold addS
  split
  ·have := addS_len a 0 l
   simp
   omega
  ·have := addS_len a (b - s.f0) l
   simp
   omega
theorem good_all {l0 : List S24} {l1 : List Bool} {left : Int} (h : goodA l0 l1 left = true) : (∀ u ∈ l0, goodU u = true) ∧ 0 ≤ left ∧ left ≤ 100000000000 := by
 simp [goodA] at h
 exact ⟨h.1.1.2, h.1.2, h.2⟩
theorem fill_bnd : ∀ (i : Nat) (us : List S24) (bs : List Bool) (row : List Int), (∀ u ∈ us, goodU u = true) → (∀ x ∈ row, 0 ≤ x ∧ x ≤ 1000000000) → ∀ x ∈ fillR i us bs row, 0 ≤ x ∧ x ≤ 1000000000
 | _, [], _, row, _, h => by simpa [fillR] using h
 | _, _ :: _, [], row, _, h => by simpa [fillR] using h
 | i, u :: us, b :: bs, row, hg, h => by
  rw [fillR]
  have hu := good_u (hg u List.mem_cons_self)
  refine fill_bnd (i + 1) us bs _ (fun x hx => hg x (List.mem_cons_of_mem _ hx)) ?_
  cases b with
  | false => exact h
  | true =>
   intro x hx
   rcases List.mem_or_eq_of_mem_set hx with hx | rfl
   ·exact h x hx
   ·exact ⟨hu.2.1, hu.2.2.1⟩
theorem rd_rdOf (l : List Int) (i : Int) : rd l i = rdOf 0 l i := rfl
theorem rd_bnd {l : List Int} {i : Int} {B : Int} (h : ∀ x ∈ l, 0 ≤ x ∧ x ≤ B) (h0 : 0 ≤ i) (h1 : i < (l.length : Int)) : 0 ≤ rdOf 0 l i ∧ rdOf 0 l i ≤ B := by
 have hl : i.toNat < l.length := by omega
 have e : rdOf 0 l i = l[i.toNat] := by simp [rdOf, hl]
 rw [e]
 exact h _ (List.getElem_mem hl)
theorem piece_cell {w : World} {g j : Nat} {rs : List Pc} {p : Pc} (h : PB w g rs) (hj : j < rs.length) (hp : rs.getD j z84 = p) (i : Nat) (hi : i < 3) : w.cell? ⟨g, j * 3 + i, none⟩ = (pcell p)[i]? := by
 rw [blk_cell h.2, List.getElem?_toArray, cellsP_lo (by omega), show (j * 3 + i) / 3 = j by omega, show (j * 3 + i) % 3 = i by omega, hp]
theorem good_at {l0 : List S24} {l1 : List Bool} {left : Int} (h : goodA l0 l1 left = true) (j : Nat) (hj : j < l0.length) : l1.length = l0.length ∧ (rd_T24 l0 (j : Int)).f2.length ≤ 3 ∧ okS (rd_T24 l0 (j : Int)).f1 (rd_T24 l0 (j : Int)).f2 := by
 simp [goodA] at h
 obtain ⟨⟨⟨⟨h1, h2⟩, h3⟩, h4⟩, h5⟩ := h
 have e : rd_T24 l0 (j : Int) = l0[j] := by simp [rd_T24, hj]
 have h6 := h3 l0[j] (List.getElem_mem hj)
 simp [goodU] at h6
 rw [e]
 exact ⟨h2, (by omega), (by omega), (by omega), fun s hs => by have := h6.1.2 s hs; omega⟩
set_option maxHeartbeats 8000000 in
set_option maxRecDepth 100000 in
theorem alloc_main (k : Nat) (A0 : Option Addr) (c0 : Nat) (l0 : List (S24)) (A1 : Option Addr) (c1 : Nat) (l1 : List Bool) (a2 least most : Int) (w : World) (hr0 : Kd.C k24 w A0 l0.length l0) (hc0 : l0.length ≤ c0) (hr1 : Kd.C Kd.bool w A1 l1.length l1) (hc1 : l1.length ≤ c1) (hr : energy_Range.f k l0 l1 = some (least, most, 0)) (h1 : ¬ a2 < 0) (h2 : ¬ a2 < least) (h3 : ¬ a2 > most) (hg : goodA l0 l1 (wrap64 (a2 - least)) = true) :
  Calls Try.prog 32 #[.slice A0 l0.length c0, .slice A1 l1.length c1, .int .i64 a2] w fun e w' => ∃ v0_ : Value, e = .returned (.tuple #[v0_, .int .i64 0]) ∧ Kd.R (Kd.int .i64) 2 w' w.heap.size (fun _ => True) v0_ (allocRow l0 l1 (wrap64 (a2 - least))) ∧ Below w.heap.size w w' := by
 have HR0 := Aside0.mk hr0
 have HC0 := Aside0.mk hc0
 have HR1 := Aside0.mk hr1
 have HC1 := Aside0.mk hc1
 have HRG := Aside0.mk hr
 have HGD := Aside0.mk hg
 have HB := Aside0.mk (Below.refl w.heap.size w)
 have hu24 := Try.underlying24
 have hu87 := Try.underlying87
 have hu84 := Try.underlying84
 clear hr0 hc0 hr1 hc1 hr hg
 have b1 : decide (a2 < 0) = false := decide_eq_false h1
 have b2 : decide (a2 < least) = false := decide_eq_false h2
 have b3 : decide (a2 > most) = false := decide_eq_false h3
 have b3' : decide (most < a2) = false := decide_eq_false h3
 have e1 := eq_false h1
 have e2 := eq_false h2
 have e3 : (most < a2) = False := eq_false h3
 clear h1 h2 h3
 obtain ⟨left, hl⟩ : ∃ x, x = wrap64 (a2 - least) := ⟨_, rfl⟩
 rw [← hl] at HGD ⊢
 replace hl := hl.symm
 have hn : (l0.length : Int) ≤ 5 := by
  have h := HGD.out
  simp [goodA] at h
  omega
 have hn5 : l0.length ≤ 5 := by omega
 have HN := Aside0.mk hn5
 clear hn hn5
 go_enter Try.func32, Try.ntmps32
 go_wp2_with (first | ((with_reducible refine gate_callee (f := 52) rfl ?_); refine goesL_ (some 22) rfl rfl Try.func52 m_19 rfl #[.slice A0 l0.length c0, .slice A1 l1.length c1] rfl m_31 ?_; (with_reducible refine (energy_Range.calls k _ _ l0 _ _ l1 least most 0 _ HR0.out HC0.out HR1.out HC1.out HRG.out).mono ?_); rintro e w1 ⟨rfl, hb⟩; refine ⟨_, rfl, ?_⟩; replace HB := Aside0.mk (below_step HB.out hb); clear hb) | ((with_reducible refine gate_dst (N := 44) rfl ?_); refine Kd.R_make (Kd.int .i64) _ 2 rfl (N := 44) rfl 46 _ _ rfl (l0.length : Int) rfl rfl Try.underlying46 (.int .i64 0) 8 info2 rfl (by decide) (by omega) 0 (ok := fun _ => True) (okp := fun _ => True) rfl (fun _ hk => hk) trivial (by omega) (by have := HN.out; omega) (Below.refl _ _) (Nat.le_refl _) ?_; intro vr w2 ho hb hg_ hnew_; clear hg_ hnew_; rw [Int.toNat_natCast] at ho; have HO := Aside0.mk (Kd.R_lower ho (below_size HB.out)); replace HB := Aside0.mk (below_step HB.out hb); clear hb ho) | ((with_reducible refine gate_dst (N := 46) rfl ?_); refine box_event ?hg (N := 46) ?hd (cs := (cellsP []).toArray) (t := 87) ?hr ?_; (case hd => rfl); (case hg => rfl); (case hr => exact hr_); intro gp hg w3 hbox hb; have HGP := Aside0.mk (show w.heap.size ≤ gp by rw [hg]; exact below_size HB.out); replace HO := Aside0.mk (Kd.R_below HO.out hb); replace HB := Aside0.mk (below_step HB.out hb); have HPB := Aside0.mk hbox; clear hb hbox hg))
 go_loopg [49] l0.length (fun kq v49 wc => ∃ (j : Nat) (row : List Int) (ps : List Pc), v49 = .int .i64 j ∧ Aside0 (kq + j = l0.length) ∧ Aside0 (fillR 0 l0 l1 (List.replicate l0.length 0) = fillR j (l0.drop j) (l1.drop j) row ∧ row.length = l0.length) ∧ Aside0 (piecesOf 0 l0 l1 = ps ++ piecesOf j (l0.drop j) (l1.drop j) ∧ ps.length ≤ 3 * j) ∧ Aside0 (Kd.R (Kd.int .i64) 2 wc w.heap.size (fun _ => True) vr row) ∧ Aside0 (PB wc gp ps) ∧ Aside0 (Below w.heap.size w wc))
 case atStart =>
  exact ⟨0, List.replicate l0.length 0, [], rfl, ⟨rfl⟩, ⟨(by rw [List.drop_zero, List.drop_zero]), (by simp)⟩, ⟨(by rw [List.drop_zero, List.drop_zero, List.nil_append]), (by simp)⟩, ⟨HO.out⟩, ⟨(by simp), HPB.out⟩, ⟨HB.out⟩⟩
 case round =>
  clear HO HPB HB
  obtain ⟨j, row, ps, rfl, HJ, HF, HQ, HO, HPB, HB⟩ := hrel
  by_cases hj : j < l0.length
  ·obtain ⟨k1, rfl⟩ : ∃ k1, gk = k1 + 1 := ⟨gk - 1, m_144⟩
   have hG := good_at HGD.out j hj
   have hp : 0 ≤ (j : Int) := by omega
   have hq : (j : Int) < (l0.length : Int) := by omega
   have hq1 : (j : Int) < (l1.length : Int) := by have := hG.1; omega
   obtain ⟨ad, A2, c2, e1, x0, x1, x2, x3, x4, x5, x6, x7, x8, hl2, hi2⟩ := at_T24 HR0.out (j : Int) hp hq
   subst e1
   obtain ⟨ad1, e2, y0⟩ := Kd.at_bool HR1.out (j : Int) hp hq1
   subst e2
   replace x0 := mv_ HB x0
   replace x1 := mv_ HB x1
   replace x2 := mv_ HB x2
   replace x3 := mv_ HB x3
   replace x4 := mv_ HB x4
   replace x5 := mv_ HB x5
   replace x6 := mv_ HB x6
   replace x7 := mv_ HB x7
   replace x8 := mv_ HB x8
   have HY := Aside0.mk (And.intro (World.block_lt_of_cell? w _ y0) y0)
   clear y0
   obtain ⟨u, hu⟩ : ∃ u, u = rd_T24 l0 (j : Int) := ⟨_, rfl⟩
   rw [← hu] at x0 x1 x2 x3 x4 x5 x6 x7 x8 hl2 hi2
   rw [Int.toNat_natCast] at x0 x1 x2 x3 x4 x5 x6 x7 x8
   obtain ⟨b, hb⟩ : ∃ b, b = rdOf false l1 (j : Int) := ⟨_, rfl⟩
   have HU := Aside0.mk (And.intro hu (And.intro hb (And.intro hl2 hi2)))
   have HGJ := Aside0.mk hG
   clear hu hl2 hi2 hG hb
   have qj : decide ((j : Int) < (l0.length : Int)) = true := decide_eq_true hq
   have qj2 : decide (j < l0.length) = true := decide_eq_true hj
   have qj3 : decide ((j : Int) < (l1.length : Int)) = true := decide_eq_true hq1
   have qj4 : decide (j < l1.length) = true := decide_eq_true (by omega)
   replace hq1 := eq_true hq1
   replace hq := eq_true hq
   replace hp := eq_true hp
   have wj : wrap64 ((j : Int) + 1) = ((j + 1 : Nat) : Int) := by have h1 := HN.out; exact (wrap64_id (by omega) (by omega)).trans (by omega)
   have HJ2 := Aside0.mk hj
   clear hj
   go_upto_region 13 with (fail)
   refine wp_gen (F := fun Wk => Wk.heap[wr.heap.size]? = some (.cells #[.int .i64 u.f0, .int .i64 u.f1, .slice A2 u.f2.length c2, .int .i64 u.f3, .int .i64 u.f4, .int .i64 u.f5, .int .i64 u.f6, .int .i64 u.f7, .int .i64 u.f8] 24 (0, 0)) ∧ Below wr.heap.size wr Wk) ⟨blk_new _ _, below_alloc (Below.refl wr.heap.size wr) _⟩ ?_
   rintro Wk ⟨m0, m1⟩
   obtain ⟨gb, hgb⟩ : ∃ gb, gb = wr.heap.size := ⟨_, rfl⟩
   have hgw : w.heap.size ≤ gb := by have := HB.out.size; omega
   rw [← hgb] at m0 ⊢
   have BB := Aside0.mk m0
   replace HO := Aside0.mk (Kd.R_below HO.out m1)
   replace HPB := Aside0.mk (show PB Wk gp ps from ⟨HPB.out.1, any_below HPB.out.2 m1⟩)
   have y0 : Wk.cell? (ad1.add j) = some (.bool b) := by
    have h := HY.out
    rw [Int.toNat_natCast, ← HU.out.2.1] at h
    exact (m1.cell (p := ad1.add j) (by have := HB.out.size; omega)).trans ((HB.out.cell (p := ad1.add j) h.1).trans h.2)
   replace HB := Aside0.mk (below_step HB.out m1)
   have HGW := Aside0.mk hgw
   clear m0 m1 hgb hgw x0 x1 x2 x3 x4 x5 x6 x7 x8
   have hz0 : Wk.cell? ⟨gb, 0, none⟩ = some (.int .i64 u.f0) := (blk_cell BB.out 0).trans rfl
   have hz1 : Wk.cell? ⟨gb, 1, none⟩ = some (.int .i64 u.f1) := (blk_cell BB.out 1).trans rfl
   have hz2 : Wk.cell? ⟨gb, 2, none⟩ = some (.slice A2 u.f2.length c2) := (blk_cell BB.out 2).trans rfl
   have hz3 : Wk.cell? ⟨gb, 3, none⟩ = some (.int .i64 u.f3) := (blk_cell BB.out 3).trans rfl
   have hz4 : Wk.cell? ⟨gb, 4, none⟩ = some (.int .i64 u.f4) := (blk_cell BB.out 4).trans rfl
   have hz5 : Wk.cell? ⟨gb, 5, none⟩ = some (.int .i64 u.f5) := (blk_cell BB.out 5).trans rfl
   have hz6 : Wk.cell? ⟨gb, 6, none⟩ = some (.int .i64 u.f6) := (blk_cell BB.out 6).trans rfl
   have hz7 : Wk.cell? ⟨gb, 7, none⟩ = some (.int .i64 u.f7) := (blk_cell BB.out 7).trans rfl
   have hz8 : Wk.cell? ⟨gb, 8, none⟩ = some (.int .i64 u.f8) := (blk_cell BB.out 8).trans rfl
   obtain ⟨go, co, eo, gbo, glo, clo, hgo⟩ := Kd.R_form HO.out (by have := HF.out.2; have := HJ2.out; omega)
   rw [HF.out.2] at eo
   subst eo
   have hrl := HF.out.2
   obtain ⟨hx, hf⟩ := Kd.R_celln 0 HO.out (j : Int) (by omega) (by have := HJ2.out; omega)
   rw [Int.toNat_natCast] at hx hf
   have hne : gb ≠ go := blk_ne BB.out hgo (by decide)
   have hne2 : go ≠ gb := Ne.symm hne
   have hne3 : gp ≠ go := blk_ne HPB.out.2 hgo (by decide)
   have HNE := Aside0.mk hne3
   have HGO := Aside0.mk gbo
   have HGT := Aside0.mk hgo
   clear hne3 gbo glo hgo hrl
   cases b with
   | true =>
    go_wp2_with ((with_reducible refine gate_callee (f := 55) rfl ?_); refine stopHere ?_)
    intro _
    have hO2 := Kd.R_putn HO.out (j : Int) u.f1
    rw [Int.toNat_natCast] at hO2
    have hP2 : PB (Wk.setCell ⟨go, j, none⟩ (.int .i64 u.f1)) gp ps := ⟨HPB.out.1, blk_far HPB.out.2 HNE.out _⟩
    have hB2 : Below w.heap.size w (Wk.setCell ⟨go, j, none⟩ (.int .i64 u.f1)) := below_set HB.out HGO.out
    have hG2 := HGJ.out
    rw [← HU.out.1] at hG2
    have hl5 : ps.length + u.f2.length ≤ 15 := by have h1 := HQ.out.2; have h2 := HN.out; have h3 := HJ2.out; have h4 := hG2.2.1; omega
    have HO2 := Aside0.mk hO2
    have HP2 := Aside0.mk hP2
    have HB2 := Aside0.mk hB2
    have HL5 := Aside0.mk hl5
    have HK5 := Aside0.mk hG2.2.2
    clear hO2 hP2 hB2 hl5 hG2
    refine goesL_ (some 66) rfl rfl Try.func55 m_19 rfl #[.pointer (some ⟨gp, 0, none⟩), .int .i64 (j : Int), .agg #[.int .i64 u.f0, .int .i64 u.f1, .slice A2 u.f2.length c2, .int .i64 u.f3, .int .i64 u.f4, .int .i64 u.f5, .int .i64 u.f6, .int .i64 u.f7, .int .i64 u.f8]] rfl m_31 ?_
    refine (pieces_add_calls w gp (j : Int) u.f0 u.f1 u.f3 u.f4 u.f5 u.f6 u.f7 u.f8 A2 c2 u.f2 ps _ HB2.out HGP.out HP2.out HU.out.2.2.2 HL5.out HK5.out).mono ?_
    rintro e w5 ⟨rfl, hp5, hb5, hk5⟩
    refine ⟨_, rfl, ?_⟩
    have HO3 := Aside0.mk (Kd.R_mono (Kd.R_keep (Kd.R_types HO2.out HP2.out.2 (by decide)) hk5 (fun _ hk => hk.2)) (fun _ _ => (trivial : True)))
    have HP3 := Aside0.mk hp5
    have HB3 := Aside0.mk hb5
    clear hp5 hb5 hk5
    go_wp2_with fail
    go_roundg k1
    case measure => omega
    case rel =>
     have hjl := HJ2.out
     have hjl1 : j < l1.length := by have := HGJ.out.1; omega
     refine ⟨j + 1, row.set j u.f1, ps ++ addS j u.f1 u.f2, m_133, ⟨m_144⟩, ⟨?_, (by rw [List.length_set]; exact HF.out.2)⟩, ⟨?_, ?_⟩, HO3, HP3, HB3⟩
     ·rw [HF.out.1, fill_step hjl hjl1, ← HU.out.1, ← HU.out.2.1]
      rfl
     ·rw [HQ.out.1, pieces_step hjl hjl1, ← HU.out.1, ← HU.out.2.1, List.append_assoc]
      rfl
     ·have h1 := addS_len (j : Int) u.f1 u.f2
      have h2 := HGJ.out.2.1
      rw [← HU.out.1] at h2
      have h3 := HQ.out.2
      rw [List.length_append]
      omega
   | false =>
    go_wp2_with fail
    go_roundg k1
    case measure => omega
    case rel =>
     have hjl := HJ2.out
     have hjl1 : j < l1.length := by have := HGJ.out.1; omega
     refine ⟨j + 1, row, ps, m_133, ⟨m_144⟩, ⟨?_, HF.out.2⟩, ⟨?_, (by have h3 := HQ.out.2; omega)⟩, HO, HPB, HB⟩
     ·rw [HF.out.1, fill_step hjl hjl1, ← HU.out.2.1]
      rfl
     ·rw [HQ.out.1, pieces_step hjl hjl1, ← HU.out.2.1]
      rfl
  ·have hz : l0.drop j = [] := List.drop_eq_nil_of_le (by omega)
   have qj : decide ((j : Int) < (l0.length : Int)) = false := decide_eq_false (by omega)
   have qj2 : decide (j < l0.length) = false := decide_eq_false hj
   have qj3 : ((j : Int) < (l0.length : Int)) = False := eq_false (by omega)
   have qj4 : (j < l0.length) = False := eq_false hj
   have hf0 : fillR 0 l0 l1 (List.replicate l0.length 0) = row := by
    rw [HF.out.1, hz]
    rfl
   have hq0 : piecesOf 0 l0 l1 = ps := by
    rw [HQ.out.1, hz]
    exact List.append_nil ps
   have HF0 := Aside0.mk (And.intro hf0 HF.out.2)
   have HQ0 := Aside0.mk hq0
   clear hz hj hf0 hq0
   have hall := good_all HGD.out
   have hpre := pieces_pre 0 l0 l1 hall.1
   have hmem := pieces_mem 0 l0 l1 hall.1
   rw [HQ0.out] at hpre hmem
   have HPRE := Aside0.mk hpre
   have HMEM := Aside0.mk hmem
   have HLF := Aside0.mk hall.2
   have HRB := Aside0.mk (show ∀ x ∈ row, 0 ≤ x ∧ x ≤ 1000000000 from by
    rw [← HF0.out.1]
    exact fill_bnd 0 l0 l1 _ hall.1 (by intro x hx; rw [List.mem_replicate] at hx; omega))
   clear hall hpre hmem
   go_wp2_with ((with_reducible refine gate_callee (f := 56) rfl ?_); refine goesL_ (some 72) rfl rfl Try.func56 m_19 rfl #[.pointer (some ⟨gp, 0, none⟩)] rfl m_31 ?_; refine (pieces_row_calls w gp ps _ HB.out HGP.out HPB.out).mono ?_; rintro e w5 ⟨rs, rfl, hperm, hpw, hp5, hb5, hk5⟩; refine ⟨_, rfl, ?_⟩; have HO3 := Aside0.mk (Kd.R_mono (Kd.R_keep (Kd.R_types HO.out HPB.out.2 (by decide)) hk5 (fun _ hk => hk.2)) (fun _ _ => (trivial : True))); have HRS := Aside0.mk (And.intro (srt_unique HPRE.out hperm hpw) hperm); have HP3 := Aside0.mk hp5; have HB3 := Aside0.mk hb5; clear hperm hpw hp5 hb5 hk5)
   go_loopg [15, 74] rs.length (fun kq v15 v74 wc => ∃ (lf : Int) (j : Nat) (row2 : List Int), v15 = .int .i64 lf ∧ v74 = .int .i64 j ∧ Aside0 (kq + j = rs.length) ∧ Aside0 (takeP left rs row = takeP lf (rs.drop j) row2 ∧ row2.length = l0.length) ∧ Aside0 ((0 ≤ lf ∧ lf ≤ 100000000000) ∧ ∀ x ∈ row2, 0 ≤ x ∧ x ≤ 1000000000 * (1 + (j : Int))) ∧ Aside0 (Kd.R (Kd.int .i64) 2 wc w.heap.size (fun _ => True) vr row2) ∧ Aside0 (PB wc gp rs) ∧ Aside0 (Below w.heap.size w wc))
   case atStart =>
    exact ⟨left, 0, row, (by first | rfl | rw [hl]), rfl, ⟨rfl⟩, ⟨(by rw [List.drop_zero]), HF0.out.2⟩, ⟨HLF.out, fun x hx => by have := HRB.out x hx; omega⟩, HO3, HP3, HB3⟩
   case round =>
    clear HO3 HP3 HB3 HO HPB HB
    obtain ⟨lf, j2, row2, rfl, rfl, HJ3, HT, HLB, HO, HPB, HB⟩ := hrel
    by_cases hj3 : j2 < rs.length
    ·obtain ⟨k1, rfl⟩ : ∃ k1, gk = k1 + 1 := ⟨gk - 1, (by have := HJ3.out; omega)⟩
     obtain ⟨p, hp⟩ : ∃ p, p = rs[j2] := ⟨_, rfl⟩
     have hdr : rs.drop j2 = p :: rs.drop (j2 + 1) := by rw [hp]; exact List.drop_eq_getElem_cons hj3
     have hpm := HMEM.out p (HRS.out.2.mem_iff.1 (by rw [hp]; exact List.getElem_mem hj3))
     have hpd : rs.getD j2 z84 = p := by rw [hp]; simp [hj3]
     have hpm2 : 0 ≤ p.1 ∧ p.1 < (l0.length : Int) ∧ 0 < p.2.1 ∧ p.2.1 ≤ 1000000000 := ⟨(by omega), (by omega), hpm.2.2.1, hpm.2.2.2⟩
     have HPM := Aside0.mk hpm2
     have HDR := Aside0.mk hdr
     have c0 : wr.cell? ⟨gp, j2 * 3, none⟩ = some (.int .i64 p.1) := piece_cell HPB.out hj3 hpd 0 (by omega)
     have c1 : wr.cell? ⟨gp, j2 * 3 + 1, none⟩ = some (.int .i64 p.2.1) := piece_cell HPB.out hj3 hpd 1 (by omega)
     have c2 : wr.cell? ⟨gp, j2 * 3 + 2, none⟩ = some (.int .i64 p.2.2) := piece_cell HPB.out hj3 hpd 2 (by omega)
     clear hp hdr hpm hpd
     have q1 : (0 ≤ (j2 : Int)) = True := eq_true (by omega)
     have q2 : ((j2 : Int) < (rs.length : Int)) = True := eq_true (by omega)
     have q3 : decide ((j2 : Int) < (rs.length : Int)) = true := decide_eq_true (by omega)
     have q4 : decide (j2 < rs.length) = true := decide_eq_true hj3
     have q5 : (j2 < rs.length) = True := eq_true hj3
     have wj : wrap64 ((j2 : Int) + 1) = ((j2 + 1 : Nat) : Int) := by have h1 := HPB.out.1; exact (wrap64_id (by omega) (by omega)).trans (by omega)
     have HJ4 := Aside0.mk hj3
     clear hj3 hpm2
     go_upto_region 21 with (fail)
     refine wp_gen (F := fun Wk => Wk.heap[wr.heap.size]? = some (.cells #[.int .i64 p.1, .int .i64 p.2.1, .int .i64 p.2.2] 84 (0, 0)) ∧ Below wr.heap.size wr Wk) ⟨blk_new _ _, below_alloc (Below.refl wr.heap.size wr) _⟩ ?_
     rintro Wk ⟨m0, m1⟩
     obtain ⟨gb, hgb⟩ : ∃ gb, gb = wr.heap.size := ⟨_, rfl⟩
     rw [← hgb] at m0 ⊢
     have BB := Aside0.mk m0
     replace HO := Aside0.mk (Kd.R_below HO.out m1)
     replace HPB := Aside0.mk (show PB Wk gp rs from ⟨HPB.out.1, any_below HPB.out.2 m1⟩)
     replace HB := Aside0.mk (below_step HB.out m1)
     clear m0 m1 hgb c0 c1 c2
     have hz0 : Wk.cell? ⟨gb, 0, none⟩ = some (.int .i64 p.1) := (blk_cell BB.out 0).trans rfl
     have hz1 : Wk.cell? ⟨gb, 1, none⟩ = some (.int .i64 p.2.1) := (blk_cell BB.out 1).trans rfl
     obtain ⟨go, co, eo, gbo, glo, clo, hgo⟩ := Kd.R_form HO.out (by have h1 := HT.out.2; have h2 := HPM.out; omega)
     rw [HT.out.2] at eo
     subst eo
     obtain ⟨hx, hf⟩ := Kd.R_celln 0 HO.out p.1 HPM.out.1 HPM.out.2.1
     have HNE := Aside0.mk (blk_ne HPB.out.2 hgo (by decide) : gp ≠ go)
     have HGO := Aside0.mk gbo
     clear gbo glo hgo
     have u1 : (0 ≤ p.1) = True := eq_true HPM.out.1
     have u2 : (p.1 < (l0.length : Int)) = True := eq_true HPM.out.2.1
     have u3 : decide (p.1 < (l0.length : Int)) = true := decide_eq_true HPM.out.2.1
     have u4 : decide (0 ≤ p.1) = true := decide_eq_true HPM.out.1
     have hbr := rd_bnd HLB.out.2 HPM.out.1 (by rw [HT.out.2]; exact HPM.out.2.1)
     have hj15 : (j2 : Int) < 15 := by have h1 := HPB.out.1; have h2 := HJ4.out; omega
     by_cases hm : p.2.1 < lf
     ·have m1 : (p.2.1 < lf) = True := eq_true hm
      have HMN := Aside0.mk (show mn lf p.2.1 = p.2.1 by unfold mn; rw [if_pos hm])
      have ws : wrap64 (rdOf 0 row2 p.1 + p.2.1) = rdOf 0 row2 p.1 + p.2.1 := wrap64_id (by have := HPM.out; omega) (by have := HPM.out; omega)
      have wl : wrap64 (lf - p.2.1) = lf - p.2.1 := wrap64_id m_143 m_143
      have HHM := Aside0.mk hm
      clear hm hbr hj15
      go_wp2_with fail
      have hm := HHM.out
      have hp3 := HPM.out
      have hO2 := Kd.R_putn HO.out p.1 (rdOf 0 row2 p.1 + p.2.1)
      have hcl := HLB.out
      go_roundg k1
      case measure => omega
      case rel =>
       have hlr := HT.out.2
       have hmn := HMN.out
       refine ⟨lf - p.2.1, j2 + 1, row2.set p.1.toNat (rdOf 0 row2 p.1 + p.2.1), (by first | rfl | rw [wl]), m_133, ⟨(by have := HJ3.out; omega)⟩, ⟨?_, (by rw [List.length_set]; exact hlr)⟩, ⟨⟨(by omega), (by omega)⟩, ?_⟩, ⟨hO2⟩, ⟨HPB.out.1, blk_far HPB.out.2 HNE.out _⟩, ⟨below_set HB.out HGO.out⟩⟩
       ·rw [HT.out.1, HDR.out, takeP, hmn, rd_rdOf]
       ·intro x hx
        rcases List.mem_or_eq_of_mem_set hx with hx | rfl
        ·have := hcl.2 x hx
         omega
        ·have hb := rd_bnd hcl.2 HPM.out.1 (by rw [hlr]; exact HPM.out.2.1)
         have := HPM.out.2.2.2
         omega
     ·have m1 : (p.2.1 < lf) = False := eq_false hm
      have HMN := Aside0.mk (show mn lf p.2.1 = lf by unfold mn; rw [if_neg hm])
      have ws : wrap64 (rdOf 0 row2 p.1 + lf) = rdOf 0 row2 p.1 + lf := wrap64_id m_143 m_143
      have w00 : wrap64 0 = 0 := wrap64_id (by omega) (by omega)
      have HHM := Aside0.mk hm
      clear hm hbr hj15
      go_wp2_with fail
      have hm := HHM.out
      have hp3 := HPM.out
      have hO2 := Kd.R_putn HO.out p.1 (rdOf 0 row2 p.1 + lf)
      have hcl := HLB.out
      go_roundg k1
      case measure => omega
      case rel =>
       have hlr := HT.out.2
       have hmn := HMN.out
       refine ⟨lf - lf, j2 + 1, row2.set p.1.toNat (rdOf 0 row2 p.1 + lf), (by first | rfl | (simp; done) | simp [w00]), m_133, ⟨(by have := HJ3.out; omega)⟩, ⟨?_, (by rw [List.length_set]; exact hlr)⟩, ⟨⟨(by omega), (by omega)⟩, ?_⟩, ⟨hO2⟩, ⟨HPB.out.1, blk_far HPB.out.2 HNE.out _⟩, ⟨below_set HB.out HGO.out⟩⟩
       ·rw [HT.out.1, HDR.out, takeP, hmn, rd_rdOf]
       ·intro x hx
        rcases List.mem_or_eq_of_mem_set hx with hx | rfl
        ·have := hcl.2 x hx
         omega
        ·have hb := rd_bnd hcl.2 HPM.out.1 (by rw [hlr]; exact HPM.out.2.1)
         have := HPM.out.2.2.2
         omega
    ·have hz : rs.drop j2 = [] := List.drop_eq_nil_of_le (by omega)
     have q2 : ((j2 : Int) < (rs.length : Int)) = False := eq_false (by omega)
     have q3 : decide ((j2 : Int) < (rs.length : Int)) = false := decide_eq_false (by omega)
     have q4 : decide (j2 < rs.length) = false := decide_eq_false hj3
     have q5 : (j2 < rs.length) = False := eq_false hj3
     have HZ := Aside0.mk hz
     clear hz hj3
     go_wp2_with fail
     go_ret2
     refine ⟨vr, rfl, ?_, HB.out⟩
     have e : allocRow l0 l1 left = row2 := by
      unfold allocRow
      rw [HF0.out.1, HQ0.out, ← HRS.out.1, HT.out.1, HZ.out, takeP]
     rw [e]
     exact HO.out
set_option maxHeartbeats 8000000 in
set_option maxRecDepth 100000 in
theorem alloc_err (k : Nat) (A0 : Option Addr) (c0 : Nat) (l0 : List (S24)) (A1 : Option Addr) (c1 : Nat) (l1 : List Bool) (a2 least most e0 r2 : Int) (w : World) (hr0 : Kd.C k24 w A0 l0.length l0) (hc0 : l0.length ≤ c0) (hr1 : Kd.C Kd.bool w A1 l1.length l1) (hc1 : l1.length ≤ c1) (hr : energy_Range.f k l0 l1 = some (least, most, e0)) (h : (e0 ≠ 0 ∧ r2 = e0) ∨ (e0 = 0 ∧ a2 < 0 ∧ r2 = 1) ∨ (e0 = 0 ∧ ¬ a2 < 0 ∧ a2 < least ∧ r2 = 8) ∨ (e0 = 0 ∧ ¬ a2 < 0 ∧ ¬ a2 < least ∧ a2 > most ∧ r2 = 8)) :
  Calls Try.prog 32 #[.slice A0 l0.length c0, .slice A1 l1.length c1, .int .i64 a2] w fun e w' => ∃ v0_ : Value, e = .returned (.tuple #[v0_, .int .i64 r2]) ∧ Kd.R (Kd.int .i64) 2 w' w.heap.size (fun _ => True) v0_ [] ∧ Below w.heap.size w w' := by
 have HR0 := Aside0.mk hr0
 have HC0 := Aside0.mk hc0
 have HR1 := Aside0.mk hr1
 have HC1 := Aside0.mk hc1
 have HRG := Aside0.mk hr
 have HB := Aside0.mk (Below.refl w.heap.size w)
 clear hr0 hc0 hr1 hc1 hr
 rcases h with ⟨h1, rfl⟩ | ⟨rfl, h1, rfl⟩ | ⟨rfl, h1, h2, rfl⟩ | ⟨rfl, h1, h2, h3, rfl⟩
 ·have e1 : (r2 = 0) = False := eq_false h1
  have b1 : (r2 == 0) = false := beq_eq_false_iff_ne.mpr h1
  have b2 : (r2 != 0) = true := bne_iff_ne.mpr h1
  clear h1
  go_enter Try.func32, Try.ntmps32
  go_wp2_with ((with_reducible refine gate_callee (f := 52) rfl ?_); refine goesL_ (some 22) rfl rfl Try.func52 m_19 rfl #[.slice A0 l0.length c0, .slice A1 l1.length c1] rfl m_31 ?_; (with_reducible refine (energy_Range.calls k _ _ l0 _ _ l1 least most r2 _ HR0.out HC0.out HR1.out HC1.out HRG.out).mono ?_); rintro e w1 ⟨rfl, hb⟩; refine ⟨_, rfl, ?_⟩; replace HB := Aside0.mk (below_step HB.out hb); clear hb)
  go_ret2
  exact ⟨_, rfl, Kd.R_nil _ _ _ _ _, HB.out⟩
 ·have e1 := eq_true h1
  have b1 : decide (a2 < 0) = true := decide_eq_true h1
  clear h1
  go_enter Try.func32, Try.ntmps32
  go_wp2_with ((with_reducible refine gate_callee (f := 52) rfl ?_); refine goesL_ (some 22) rfl rfl Try.func52 m_19 rfl #[.slice A0 l0.length c0, .slice A1 l1.length c1] rfl m_31 ?_; (with_reducible refine (energy_Range.calls k _ _ l0 _ _ l1 least most 0 _ HR0.out HC0.out HR1.out HC1.out HRG.out).mono ?_); rintro e w1 ⟨rfl, hb⟩; refine ⟨_, rfl, ?_⟩; replace HB := Aside0.mk (below_step HB.out hb); clear hb)
  go_ret2
  exact ⟨_, rfl, Kd.R_nil _ _ _ _ _, HB.out⟩
 ·have e1 := eq_false h1
  have e2 := eq_true h2
  have b1 : decide (a2 < 0) = false := decide_eq_false h1
  have b2 : decide (a2 < least) = true := decide_eq_true h2
  clear h1 h2
  go_enter Try.func32, Try.ntmps32
  go_wp2_with ((with_reducible refine gate_callee (f := 52) rfl ?_); refine goesL_ (some 22) rfl rfl Try.func52 m_19 rfl #[.slice A0 l0.length c0, .slice A1 l1.length c1] rfl m_31 ?_; (with_reducible refine (energy_Range.calls k _ _ l0 _ _ l1 least most 0 _ HR0.out HC0.out HR1.out HC1.out HRG.out).mono ?_); rintro e w1 ⟨rfl, hb⟩; refine ⟨_, rfl, ?_⟩; replace HB := Aside0.mk (below_step HB.out hb); clear hb)
  go_ret2
  exact ⟨_, rfl, Kd.R_nil _ _ _ _ _, HB.out⟩
 ·have e1 := eq_false h1
  have e2 := eq_false h2
  have e3 : (most < a2) = True := eq_true h3
  have b1 : decide (a2 < 0) = false := decide_eq_false h1
  have b2 : decide (a2 < least) = false := decide_eq_false h2
  have b3 : decide (a2 > most) = true := decide_eq_true h3
  have b4 : decide (most < a2) = true := decide_eq_true h3
  clear h1 h2 h3
  go_enter Try.func32, Try.ntmps32
  go_wp2_with ((with_reducible refine gate_callee (f := 52) rfl ?_); refine goesL_ (some 22) rfl rfl Try.func52 m_19 rfl #[.slice A0 l0.length c0, .slice A1 l1.length c1] rfl m_31 ?_; (with_reducible refine (energy_Range.calls k _ _ l0 _ _ l1 least most 0 _ HR0.out HC0.out HR1.out HC1.out HRG.out).mono ?_); rintro e w1 ⟨rfl, hb⟩; refine ⟨_, rfl, ?_⟩; replace HB := Aside0.mk (below_step HB.out hb); clear hb)
  go_ret2
  exact ⟨_, rfl, Kd.R_nil _ _ _ _ _, HB.out⟩
theorem energy_Allocate.calls (k : Nat) (A0 : Option Addr) (c0 : Nat) (l0 : List (S24)) (A1 : Option Addr) (c1 : Nat) (l1 : List Bool) (a2 : Int) (r1 : List Int) (r2 : Int) (w : World) (hr0 : Kd.C k24 w A0 l0.length l0) (hc0 : l0.length ≤ c0) (hr1 : Kd.C Kd.bool w A1 l1.length l1) (hc1 : l1.length ≤ c1) (h : energy_Allocate.f k l0 l1 a2 = some (r1, r2)) :
  Calls Try.prog 32 #[.slice A0 l0.length c0, .slice A1 l1.length c1, .int .i64 a2] w fun e w' => ∃ v0_ : Value, e = .returned (.tuple #[v0_, .int .i64 r2]) ∧ Kd.R (Kd.int .i64) 2 w' w.heap.size (fun _ => True) v0_ r1 ∧ Below w.heap.size w w' := by
 unfold energy_Allocate.f at h
 obtain ⟨⟨least, most, e0⟩, hr, h⟩ := Option.bind_eq_some_iff.mp h
 simp only at h
 by_cases h0 : e0 = 0
 ·rw [if_pos h0] at h
  subst h0
  by_cases h1 : a2 < 0
  ·rw [if_pos h1] at h
   simp only [Option.some.injEq, Prod.mk.injEq] at h
   obtain ⟨rfl, rfl⟩ := h
   exact alloc_err k A0 c0 l0 A1 c1 l1 a2 least most 0 1 w hr0 hc0 hr1 hc1 hr (.inr (.inl ⟨rfl, h1, rfl⟩))
  ·rw [if_neg h1] at h
   by_cases h2 : a2 < least
   ·rw [if_pos h2] at h
    simp only [Option.some.injEq, Prod.mk.injEq] at h
    obtain ⟨rfl, rfl⟩ := h
    exact alloc_err k A0 c0 l0 A1 c1 l1 a2 least most 0 8 w hr0 hc0 hr1 hc1 hr (.inr (.inr (.inl ⟨rfl, h1, h2, rfl⟩)))
   ·rw [if_neg h2] at h
    by_cases h3 : a2 > most
    ·rw [if_pos h3] at h
     simp only [Option.some.injEq, Prod.mk.injEq] at h
     obtain ⟨rfl, rfl⟩ := h
     exact alloc_err k A0 c0 l0 A1 c1 l1 a2 least most 0 8 w hr0 hc0 hr1 hc1 hr (.inr (.inr (.inr ⟨rfl, h1, h2, h3, rfl⟩)))
    ·rw [if_neg h3] at h
     by_cases hg : goodA l0 l1 (wrap64 (a2 - least)) = true
     ·rw [if_pos hg] at h
      simp only [Option.some.injEq, Prod.mk.injEq] at h
      obtain ⟨rfl, rfl⟩ := h
      exact alloc_main k A0 c0 l0 A1 c1 l1 a2 least most w hr0 hc0 hr1 hc1 hr h1 h2 h3 hg
     ·rw [if_neg hg] at h
      cases h
 ·rw [if_neg h0] at h
  simp only [Option.some.injEq, Prod.mk.injEq] at h
  obtain ⟨rfl, rfl⟩ := h
  exact alloc_err k A0 c0 l0 A1 c1 l1 a2 least most _ _ w hr0 hc0 hr1 hc1 hr (.inl ⟨h0, rfl⟩)
end Go.Proofs.Ytelklgdmhnkenaa.U
namespace Go.Proofs.Ytelklgdmhnkenaa.U
attribute [local go_sem] max2_int min2_int max_two min_two max_three min_three max_four min_four
def energy_LeastCost.f (k : Nat) (l0 : List (S24)) (l1 : List Bool) (a2 : Int) : Option (Int × Int) := (energy_Allocate.f k l0 l1 a2).bind fun bt728 => (if bt728.2 = 0 then ((energy_Cost.f k l0 l1 bt728.1).bind fun bt732 => (some (bt732.1, bt732.2))) else (some (0, bt728.2)))
set_option maxHeartbeats 8000000 in
set_option maxRecDepth 100000 in
theorem energy_LeastCost.calls (k : Nat) (A0 : Option Addr) (c0 : Nat) (l0 : List (S24)) (A1 : Option Addr) (c1 : Nat) (l1 : List Bool) (a2 : Int) (r1 : Int) (r2 : Int) (w : World) (hr0 : Kd.C k24 w A0 l0.length l0) (hc0 : l0.length ≤ c0) (hr1 : Kd.C Kd.bool w A1 l1.length l1) (hc1 : l1.length ≤ c1) (h : energy_LeastCost.f k l0 l1 a2 = some (r1, r2)) :
  Calls Try.prog 33 #[.slice A0 l0.length c0, .slice A1 l1.length c1, .int .i64 a2] w fun e w' => e = .returned (.tuple #[.int .i64 r1, .int .i64 r2]) ∧ Below w.heap.size w w' := by
 have HR0 := Aside0.mk hr0
 have HC0 := Aside0.mk hc0
 clear hr0 hc0
 have HR1 := Aside0.mk hr1
 have HC1 := Aside0.mk hc1
 clear hr1 hc1
 have HB := Aside0.mk (Below.refl w.heap.size w)
 have H : ((energy_Allocate.f k l0 l1 a2).bind fun bt728 => (if bt728.2 = 0 then ((energy_Cost.f k l0 l1 bt728.1).bind fun bt732 => (some (bt732.1, bt732.2))) else (some (0, bt728.2)))) = some (r1, r2) := h
 clear h
 replace H := Option.bind_eq_some_iff.mp H
 obtain ⟨⟨t728, t729⟩, A40, H⟩ := H
 replace H : (if t729 = 0 then ((energy_Cost.f k l0 l1 t728).bind fun bt732 => (some (bt732.1, bt732.2))) else (some (0, t729))) = some (r1, r2) := H
 have A4 := Aside0.mk A40
 clear A40
 by_cases c5 : t729 = 0
 ·rw [if_pos c5] at H
  have c5b1 : (t729 != 0) = false := bne_eq_false_iff_eq.mpr c5
  clear c5
  replace H := Option.bind_eq_some_iff.mp H
  obtain ⟨⟨t732, t733⟩, A60, H⟩ := H
  replace H : (some (t732, t733)) = some (r1, r2) := H
  have A6 := Aside0.mk A60
  clear A60
  simp only [Option.some.injEq, Prod.mk.injEq] at H
  obtain ⟨rfl, rfl⟩ := H
  go_enter Try.func33, Try.ntmps33
  go_wp2_with (first | ((with_reducible refine gate_callee (f := 32) rfl ?_); refine goesL_ (some 14) rfl rfl Try.func32 m_19 rfl #[.slice A0 l0.length c0, .slice A1 l1.length c1, .int .i64 a2] rfl m_2 ?_; (with_reducible refine (energy_Allocate.calls k _ _ l0 _ _ l1 a2 t728 t729 _ ?side1 ?side2 ?side3 ?side4 A4.out).mono ?_); (case side1 => exact cA_ HR0.out); (case side2 => exact HC0.out); (case side3 => exact cA_ HR1.out); (case side4 => exact HC1.out); rintro e w7 ⟨v730, rfl, ho0, hb⟩; refine ⟨_, rfl, ?_⟩; have HO731 := Aside0.mk (Kd.R_lower ho0 (below_size m_1)); replace HB := Aside0.mk (below_step m_1 hb); clear hb; (try clear ho0); obtain ⟨Ao8, co8, eo8⟩ := Kd.R_slice HO731.out; subst eo8) | ((with_reducible refine gate_callee (f := 31) rfl ?_); refine goesL_ (some 23) rfl rfl Try.func31 m_19 rfl #[.slice A0 l0.length c0, .slice A1 l1.length c1, .slice Ao8 t728.length co8] rfl m_2 ?_; (with_reducible refine (energy_Cost.calls k _ _ l0 _ _ l1 _ _ t728 t732 t733 _ ?side1 ?side2 ?side3 ?side4 ?side5 ?side6 A6.out).mono ?_); (case side1 => exact cA_ (Kd.C_below HR0.out HB.out)); (case side2 => exact HC0.out); (case side3 => exact cA_ (Kd.C_below HR1.out HB.out)); (case side4 => exact HC1.out); (case side5 => exact cA_ (Kd.R_reads' HO731.out).2.2); (case side6 => exact (Kd.R_reads' HO731.out).2.1); rintro e w9 ⟨rfl, hb⟩; refine ⟨_, rfl, ?_⟩; replace HB := Aside0.mk (below_step m_1 hb); clear hb))
  go_ret2
  exact ⟨m_3, m_1⟩
 ·rw [if_neg c5] at H
  have c5b1 : (t729 != 0) = true := bne_iff_ne.mpr c5
  simp only [Option.some.injEq, Prod.mk.injEq] at H
  obtain ⟨rfl, rfl⟩ := H
  go_enter Try.func33, Try.ntmps33
  go_wp2_with (first | ((with_reducible refine gate_callee (f := 32) rfl ?_); refine goesL_ (some 14) rfl rfl Try.func32 m_19 rfl #[.slice A0 l0.length c0, .slice A1 l1.length c1, .int .i64 a2] rfl m_2 ?_; (with_reducible refine (energy_Allocate.calls k _ _ l0 _ _ l1 a2 t728 t729 _ ?side1 ?side2 ?side3 ?side4 A4.out).mono ?_); (case side1 => exact cA_ HR0.out); (case side2 => exact HC0.out); (case side3 => exact cA_ HR1.out); (case side4 => exact HC1.out); rintro e w10 ⟨v730, rfl, ho0, hb⟩; refine ⟨_, rfl, ?_⟩; replace HB := Aside0.mk (below_step m_1 hb); clear hb; (try clear ho0)))
  go_ret2
  exact ⟨m_3, m_1⟩
theorem okU_of {u : S24} (h : ckU u = 0) : OkU u := by
  unfold ckU checkF at h
  split at h
  · omega
  · split at h
    · rename_i hw
      split at h
      · rename_i hB
        simp only [Bool.and_eq_true] at hB
        have hm : maxF u.f2 = qsum u.f2 := by unfold maxF; rw [if_pos hw]
        have h1 := hB.1.1.1
        unfold inB at h1
        rw [hm] at h1
        simp at h1
        exact ⟨hw, h1.1, h1.2⟩
      · omega
    · rename_i hw
      exact absurd h hw
theorem chk_all : ∀ {l0 : List S24}, chk l0 = 0 → ∀ u ∈ l0, OkU u
  | [], _, u, hu => by cases hu
  | x :: l, h, u, hu => by
    rw [chk] at h
    by_cases hx : ckU x = 0
    · rw [if_pos hx] at h
      rcases List.mem_cons.1 hu with rfl | hu
      · exact okU_of hx
      · exact chk_all h u hu
    · rw [if_neg hx] at h; exact absurd h hx
def inR (u : S24) (b : Bool) (q : Int) : Bool := if b then decide (u.f1 ≤ q) && decide (q ≤ qsum u.f2) else q == 0
def allR : List S24 → List Bool → List Int → Bool
  | u :: us, b :: bs, q :: qs => inR u b q && allR us bs qs
  | _, _, _ => true
def sumP : List S24 → List Int → Int
  | u :: us, q :: qs => partF u.f2 q + sumP us qs
  | _, _ => 0
theorem cost_loop3 (l0 : List S24) (l1 : List Bool) (row : List Int) (hl : l0.length ≤ 5) (h1 : l1.length = l0.length) (h2 : row.length = l0.length) (ho : ∀ u ∈ l0, OkU u) (d : Nat) : ∀ (i : Nat) (a : Int), l0.length - i = d → i ≤ l0.length → -(3000000000000 * (i : Int)) ≤ a → a ≤ 3000000000000 * (i : Int) →
    Evs (fun k => energy_Cost.l0 k l0 l1 a row (l0.length : Int) (i : Int)) (if allR (l0.drop i) (l1.drop i) (row.drop i) = true then (a + sumP (l0.drop i) (row.drop i), 0) else (0, 3)) := by
  induction d with
  | zero =>
    intro i a hd hi _ _
    obtain rfl : i = l0.length := by omega
    refine Evs.succ (Evs.all fun k => ?_)
    simp only [energy_Cost.l0]
    rw [if_neg (by omega)]
    simp [allR, sumP]
  | succ d ih =>
    intro i a hd hi ha0 ha1
    have hlt : i < l0.length := by omega
    have e1 := rd24 l0 i hlt
    have hd2 : l0.drop i = l0[i] :: l0.drop (i + 1) := List.drop_eq_getElem_cons hlt
    have hu := ho l0[i] (List.getElem_mem hlt)
    generalize l0[i] = u at e1 hd2 hu
    have hlt1 : i < l1.length := by omega
    have hd3 : l1.drop i = l1[i] :: l1.drop (i + 1) := List.drop_eq_getElem_cons hlt1
    have e2 : rdOf false l1 (i : Int) = l1[i] := by simp [rdOf, hlt1]
    generalize l1[i] = c at e2 hd3
    have hlt2 : i < row.length := by omega
    have hd4 : row.drop i = row[i] :: row.drop (i + 1) := List.drop_eq_getElem_cons hlt2
    have e3 : rd row (i : Int) = row[i] := by simp [rd, hlt2]
    generalize row[i] = q at e3 hd4
    have hub := okU_bnd hu
    have hm0 := hu.min0
    have hm1 := hu.min1
    have hstep : ∀ (hq0 : 0 ≤ q) (hq1 : q ≤ qsum u.f2), Evs (fun k => (energy_part.f k u.f2 q).bind fun t => energy_Cost.l0 k l0 l1 (wrap64 (a + t)) row (l0.length : Int) (wrap64 ((i : Int) + 1))) (if allR (l0.drop (i + 1)) (l1.drop (i + 1)) (row.drop (i + 1)) = true then (a + (partF u.f2 q + sumP (l0.drop (i + 1)) (row.drop (i + 1))), 0) else (0, 3)) := by
      intro hq0 hq1
      have hpb := partF_bnd u.f2 q hub.2.2.1 hq0
      have h := ih (i + 1) (a + partF u.f2 q) (by omega) (by omega) (by omega) (by omega)
      refine (part_f hub.1 hq0 hq1).bind ?_
      rw [wrap_id (x := a + partF u.f2 q) (by omega) (by omega), wrap_id (x := (i : Int) + 1) (by omega) (by omega), ← Int.add_assoc]
      exact h
    rw [hd2, hd3, hd4, allR, sumP]
    refine Evs.succ ?_
    simp only [energy_Cost.l0, if_pos (show (i : Int) < (l0.length : Int) by omega), if_pos (show (0 : Int) ≤ (i : Int) by omega), if_pos (show (i : Int) < (l1.length : Int) by omega), if_pos (show (i : Int) < (row.length : Int) by omega), e1, e2, e3]
    refine (max_f u.f0 u.f1 u.f2 u.f3 u.f4 u.f5 u.f6 u.f7 u.f8).bind ?_
    rw [hub.2.2.2.2.2]
    cases c with
    | true =>
      simp only [if_true]
      by_cases c1 : q < u.f1
      · simp only [if_pos c1]
        have e : inR u true q = false := by simp [inR]; omega
        rw [e]
        exact Evs.const rfl
      · simp only [if_neg c1]
        by_cases c2 : q > qsum u.f2
        · simp only [if_pos c2]
          have e : inR u true q = false := by simp [inR]; omega
          rw [e]
          exact Evs.const rfl
        · simp only [if_neg c2]
          have e : inR u true q = true := by simp [inR]; omega
          rw [e, Bool.true_and]
          exact hstep (by omega) (by omega)
    | false =>
      simp only [if_neg (show ¬ (false = true) by decide)]
      by_cases c1 : q < 0
      · simp only [if_pos c1]
        have e : inR u false q = false := by simp [inR]; omega
        rw [e]
        exact Evs.const rfl
      · simp only [if_neg c1]
        by_cases c2 : q > 0
        · simp only [if_pos c2]
          have e : inR u false q = false := by simp [inR]; omega
          rw [e]
          exact Evs.const rfl
        · simp only [if_neg c2]
          have e : inR u false q = true := by simp [inR]; omega
          rw [e, Bool.true_and]
          exact hstep (by omega) (by omega)
def costR (l0 : List S24) (l1 : List Bool) (row : List Int) : Int × Int := if ckF l0 l1 = 0 then (if row.length = l0.length then (if allR l0 l1 row = true then (sumP l0 row, 0) else (0, 3)) else (0, 3)) else (0, ckF l0 l1)
theorem ck_ok {l0 : List S24} {l1 : List Bool} (h : ckF l0 l1 = 0) : l0.length ≤ 5 ∧ l1.length = l0.length ∧ ∀ u ∈ l0, OkU u := by
  unfold ckF at h
  by_cases h5 : 5 < l0.length
  · rw [if_pos h5] at h; omega
  · rw [if_neg h5] at h
    by_cases hc : chk l0 = 0
    · rw [if_pos hc] at h
      by_cases hl : l1.length = l0.length
      · exact ⟨by omega, hl, chk_all hc⟩
      · rw [if_neg hl] at h; omega
    · rw [if_neg hc] at h; exact absurd h hc
theorem Cost_f (l0 : List S24) (l1 : List Bool) (row : List Int) : Evs (fun k => energy_Cost.f k l0 l1 row) (costR l0 l1 row) := by
  unfold energy_Cost.f costR
  refine (Check_f l0 l1).bind ?_
  by_cases h : ckF l0 l1 = 0
  · obtain ⟨h5, h1, ho⟩ := ck_ok h
    simp only [if_pos h]
    by_cases h2 : row.length = l0.length
    · simp only [if_pos h2, if_pos (show (row.length : Int) = (l0.length : Int) by omega)]
      have := cost_loop3 l0 l1 row h5 h1 h2 ho l0.length 0 0 (by omega) (by omega) (by omega) (by omega)
      rw [List.drop_zero, List.drop_zero, List.drop_zero, Int.zero_add] at this
      rw [h2]
      exact this
    · simp only [if_neg h2, if_neg (show ¬ (row.length : Int) = (l0.length : Int) by omega)]
      exact Evs.const rfl
  · simp only [if_neg h]
    exact Evs.const rfl
def rangeR (l0 : List S24) (l1 : List Bool) : Int × Int × Int := if ckF l0 l1 = 0 then (leastF l0 l1, mostF l0 l1, 0) else (0, 0, ckF l0 l1)
theorem Range_f (l0 : List S24) (l1 : List Bool) : Evs (fun k => energy_Range.f k l0 l1) (rangeR l0 l1) := by
  unfold energy_Range.f rangeR
  refine (Check_f l0 l1).bind ?_
  by_cases h : ckF l0 l1 = 0
  · obtain ⟨h5, h1, ho⟩ := ck_ok h
    simp only [if_pos h]
    have := range_loop l0 l1 h5 h1 ho l0.length 0 0 0 (by omega) (by omega) (by omega) (by omega) (by omega) (by omega)
    rw [List.drop_zero, List.drop_zero, Int.zero_add, Int.zero_add] at this
    exact this
  · simp only [if_neg h]
    exact Evs.const rfl
theorem ris_of : ∀ {prev : Option Int} {l : List S99}, wrongFrom true prev l = 0 → risB l = true ∧ ∀ a, prev = some a → ∀ x, l.head? = some x → a < x.f1
  | prev, [], h => ⟨rfl, fun a _ x hx => by cases hx⟩
  | prev, y :: l, h => by
    unfold wrongFrom at h
    split at h
    · omega
    · split at h
      · omega
      · rename_i hc
        have ih := ris_of h
        refine ⟨?_, fun a ha x hx => ?_⟩
        · cases l with
          | nil => rfl
          | cons z l =>
            have := ih.2 y.f1 rfl z rfl
            simp [risB, this, ih.1]
        · obtain rfl := Option.some.inj hx
          subst ha
          simp [cutB, afterB] at hc
          exact hc
theorem good_of {u : S24} (h : OkU u) : goodU u = true := by
  have hb := okU_bnd h
  have hr : risB u.f2 = true := by
    have hw := h.up
    unfold wrongF at hw
    split at hw
    · omega
    · split at hw
      · omega
      · exact (ris_of hw).1
  have h1 := h.min0
  have h2 := h.min1
  unfold goodU
  simp only [Bool.and_eq_true, decide_eq_true_eq, List.all_eq_true]
  exact ⟨⟨⟨⟨hb.2.1, h1⟩, by omega⟩, fun s hs => by have := hb.2.2.1 s hs; omega⟩, hr⟩
def allocR (l0 : List S24) (l1 : List Bool) (d : Int) : List Int × Int := if ckF l0 l1 = 0 then (if d < 0 then ([], 1) else if d < leastF l0 l1 then ([], 8) else if d > mostF l0 l1 then ([], 8) else (allocRow l0 l1 (d - leastF l0 l1), 0)) else ([], ckF l0 l1)
theorem alloc_f (l0 : List S24) (l1 : List Bool) (d : Int) : Evs (fun k => energy_Allocate.f k l0 l1 d) (allocR l0 l1 d) := by
  unfold energy_Allocate.f allocR
  refine (Range_f l0 l1).bind ?_
  unfold rangeR
  by_cases h : ckF l0 l1 = 0
  · obtain ⟨h5, h1, ho⟩ := ck_ok h
    have hb := lm_bnd l0 l1 ho
    simp only [if_pos h]
    by_cases c1 : d < 0
    · simp only [if_pos c1]; exact Evs.const rfl
    · simp only [if_neg c1]
      by_cases c2 : d < leastF l0 l1
      · simp only [if_pos c2]; exact Evs.const rfl
      · simp only [if_neg c2]
        by_cases c3 : d > mostF l0 l1
        · simp only [if_pos c3]; exact Evs.const rfl
        · simp only [if_neg c3]
          have e : wrap64 (d - leastF l0 l1) = d - leastF l0 l1 := wrap_id (by omega) (by omega)
          rw [e]
          have hg : goodA l0 l1 (d - leastF l0 l1) = true := by
            unfold goodA
            simp only [Bool.and_eq_true, decide_eq_true_eq, List.all_eq_true]
            exact ⟨⟨⟨⟨h5, h1⟩, fun u hu => good_of (ho u hu)⟩, by omega⟩, by omega⟩
          simp only [if_pos hg]
          exact Evs.const rfl
  · simp only [if_neg h]; exact Evs.const rfl
def leastR (l0 : List S24) (l1 : List Bool) (d : Int) : Int × Int := if (allocR l0 l1 d).2 = 0 then costR l0 l1 (allocR l0 l1 d).1 else (0, (allocR l0 l1 d).2)
theorem least_f (l0 : List S24) (l1 : List Bool) (d : Int) : Evs (fun k => energy_LeastCost.f k l0 l1 d) (leastR l0 l1 d) := by
  unfold energy_LeastCost.f leastR
  refine (alloc_f l0 l1 d).bind ?_
  by_cases h : (allocR l0 l1 d).2 = 0
  · simp only [if_pos h]
    exact (Cost_f l0 l1 _).bind (Evs.const rfl)
  · simp only [if_neg h]
    exact Evs.const rfl
abbrev Zp := List (Pc × Int)
def cstZ (K : Pc → Int) : Zp → Int
  | [] => 0
  | z :: l => z.2 * K z.1 + cstZ K l
def sumZ : Zp → Int
  | [] => 0
  | z :: l => z.2 + sumZ l
def totP : List Pc → Int
  | [] => 0
  | p :: l => p.2.1 + totP l
def fillZ : Int → List Pc → Zp
  | _, [] => []
  | t, p :: l => (p, mn t p.2.1) :: fillZ (t - mn t p.2.1) l
abbrev okZ (Z : Zp) : Prop := ∀ z ∈ Z, 0 ≤ z.2 ∧ z.2 ≤ z.1.2.1
theorem mnb (a b : Int) : mn a b ≤ a ∧ mn a b ≤ b ∧ (mn a b = a ∨ mn a b = b) := by unfold mn; split <;> omega
theorem totP_nn : ∀ (l : List Pc), (∀ p ∈ l, 0 ≤ p.2.1) → 0 ≤ totP l
  | [], _ => by simp [totP]
  | p :: l, h => by
    have h1 := h p List.mem_cons_self
    have h2 := totP_nn l (fun q hq => h q (List.mem_cons_of_mem _ hq))
    rw [totP]
    omega
theorem fillZ_fst : ∀ (t : Int) (l : List Pc), (fillZ t l).map (·.1) = l
  | _, [] => rfl
  | t, p :: l => by rw [fillZ, List.map_cons, fillZ_fst]
theorem fillZ_ok : ∀ (t : Int) (l : List Pc), 0 ≤ t → (∀ p ∈ l, 0 ≤ p.2.1) → okZ (fillZ t l)
  | _, [], _, _ => by intro z hz; cases hz
  | t, p :: l, h, hp => by
    have hm := mnb t p.2.1
    have h0 := hp p List.mem_cons_self
    intro z hz
    rw [fillZ] at hz
    rcases List.mem_cons.1 hz with rfl | hz
    · exact ⟨by simp; omega, by simp; omega⟩
    · exact fillZ_ok _ l (by omega) (fun q hq => hp q (List.mem_cons_of_mem _ hq)) z hz
theorem fillZ_sum : ∀ (t : Int) (l : List Pc), 0 ≤ t → t ≤ totP l → (∀ p ∈ l, 0 ≤ p.2.1) → sumZ (fillZ t l) = t
  | t, [], h0, h1, _ => by simp [totP] at h1; simp [fillZ, sumZ]; omega
  | t, p :: l, h0, h1, hp => by
    have hm := mnb t p.2.1
    have h2 := hp p List.mem_cons_self
    rw [totP] at h1
    have hn := totP_nn l (fun q hq => hp q (List.mem_cons_of_mem _ hq))
    rw [fillZ, sumZ, fillZ_sum (t - mn t p.2.1) l (by omega) (by omega) (fun q hq => hp q (List.mem_cons_of_mem _ hq))]
    simp
    omega
theorem sumZ_bnd : ∀ (Z : Zp), okZ Z → 0 ≤ sumZ Z ∧ sumZ Z ≤ totP (Z.map (·.1))
  | [], _ => by simp [sumZ, totP]
  | z :: l, h => by
    have h1 := h z List.mem_cons_self
    have ih := sumZ_bnd l (fun x hx => h x (List.mem_cons_of_mem _ hx))
    rw [sumZ, List.map_cons, totP]
    omega
theorem fill_mono (K : Pc → Int) (c : Int) : ∀ (l : List Pc) (s d : Int), (∀ p ∈ l, c ≤ K p ∧ 0 ≤ p.2.1) → 0 ≤ s → 0 ≤ d → s + d ≤ totP l → cstZ K (fillZ s l) + d * c ≤ cstZ K (fillZ (s + d) l)
  | [], s, d, _, h0, h1, h2 => by
    simp [totP] at h2
    have : d = 0 := by omega
    subst this
    simp [fillZ, cstZ]
  | p :: l, s, d, h, h0, h1, h2 => by
    have hp := h p List.mem_cons_self
    have m1 := mnb s p.2.1
    have m2 := mnb (s + d) p.2.1
    rw [totP] at h2
    have hn := totP_nn l (fun q hq => (h q (List.mem_cons_of_mem _ hq)).2)
    rw [fillZ, fillZ, cstZ, cstZ]
    obtain ⟨e, he⟩ : ∃ e, e = mn (s + d) p.2.1 - mn s p.2.1 := ⟨_, rfl⟩
    have he0 : 0 ≤ e := by omega
    have hed : e ≤ d := by omega
    have ih := fill_mono K c l (s - mn s p.2.1) (d - e) (fun q hq => h q (List.mem_cons_of_mem _ hq)) (by omega) (by omega) (by omega)
    rw [show s - mn s p.2.1 + (d - e) = s + d - mn (s + d) p.2.1 by omega] at ih
    have hx : mn (s + d) p.2.1 = mn s p.2.1 + e := by omega
    have hk : 0 ≤ e * (K p - c) := Int.mul_nonneg he0 (by omega)
    rw [Int.mul_sub] at hk
    rw [Int.sub_mul] at ih
    simp only
    rw [hx] at ih ⊢
    rw [Int.add_mul]
    omega
theorem knap (K : Pc → Int) : ∀ (Z : Zp), (Z.map (·.1)).Pairwise (fun x y => K x ≤ K y) → okZ Z → cstZ K (fillZ (sumZ Z) (Z.map (·.1))) ≤ cstZ K Z
  | [], _, _ => by simp [fillZ, cstZ, sumZ]
  | z :: l, hs, h => by
    rw [List.map_cons] at hs ⊢
    obtain ⟨hs1, hs2⟩ := List.pairwise_cons.1 hs
    have hl : okZ l := fun x hx => h x (List.mem_cons_of_mem _ hx)
    have hz := h z List.mem_cons_self
    have hb := sumZ_bnd l hl
    have ih := knap K l hs2 hl
    have m1 := mnb (sumZ (z :: l)) z.1.2.1
    rw [sumZ] at m1 ⊢
    rw [fillZ, cstZ, cstZ]
    obtain ⟨e, he⟩ : ∃ e, e = mn (z.2 + sumZ l) z.1.2.1 - z.2 := ⟨_, rfl⟩
    have he0 : 0 ≤ e := by omega
    have hq : ∀ p ∈ l.map (·.1), K z.1 ≤ K p ∧ 0 ≤ p.2.1 := by
      intro p hp
      refine ⟨hs1 p hp, ?_⟩
      obtain ⟨y, hy, rfl⟩ := List.mem_map.1 hp
      have := hl y hy
      omega
    have hm := fill_mono K (K z.1) (l.map (·.1)) (z.2 + sumZ l - mn (z.2 + sumZ l) z.1.2.1) e hq (by omega) he0 (by omega)
    rw [show z.2 + sumZ l - mn (z.2 + sumZ l) z.1.2.1 + e = sumZ l by omega] at hm
    have hx : mn (z.2 + sumZ l) z.1.2.1 = z.2 + e := by omega
    simp only
    rw [hx] at hm ⊢
    rw [Int.add_mul]
    omega
theorem cst_perm (K : Pc → Int) {Z Z' : Zp} (h : Z.Perm Z') : cstZ K Z = cstZ K Z' := by
  induction h with
  | nil => rfl
  | cons x _ ih => rw [cstZ, cstZ, ih]
  | swap x y l => rw [cstZ, cstZ, cstZ, cstZ]; omega
  | trans _ _ h1 h2 => exact h1.trans h2
theorem sum_perm {Z Z' : Zp} (h : Z.Perm Z') : sumZ Z = sumZ Z' := by
  induction h with
  | nil => rfl
  | cons x _ ih => rw [sumZ, sumZ, ih]
  | swap x y l => rw [sumZ, sumZ, sumZ, sumZ]; omega
  | trans _ _ h1 h2 => exact h1.trans h2
theorem perm_lift : ∀ {l m : List Pc}, l.Perm m → ∀ Z : Zp, Z.map (·.1) = l → ∃ Z' : Zp, Z'.Perm Z ∧ Z'.map (·.1) = m := by
  intro l m h
  induction h with
  | nil => intro Z hZ; exact ⟨Z, List.Perm.refl _, hZ⟩
  | cons x _ ih =>
    intro Z hZ
    match Z, hZ with
    | z :: Z, hZ =>
      rw [List.map_cons] at hZ
      obtain ⟨h1, h2⟩ := List.cons_eq_cons.1 hZ
      obtain ⟨Z', hp, hm⟩ := ih Z h2
      exact ⟨z :: Z', hp.cons z, by rw [List.map_cons, h1, hm]⟩
  | swap x y l =>
    intro Z hZ
    match Z, hZ with
    | a :: b :: Z, hZ =>
      simp only [List.map_cons] at hZ
      obtain ⟨h1, h2⟩ := List.cons_eq_cons.1 hZ
      obtain ⟨h3, h4⟩ := List.cons_eq_cons.1 h2
      exact ⟨b :: a :: Z, List.Perm.swap a b Z, by simp only [List.map_cons]; rw [h1, h3, h4]⟩
  | trans _ _ h1 h2 =>
    intro Z hZ
    obtain ⟨Z1, p1, m1⟩ := h1 Z hZ
    obtain ⟨Z2, p2, m2⟩ := h2 Z1 m1
    exact ⟨Z2, p2.trans p1, m2⟩
theorem cst_append (K : Pc → Int) : ∀ (A B : Zp), cstZ K (A ++ B) = cstZ K A + cstZ K B
  | [], B => by simp [cstZ]
  | z :: A, B => by rw [List.cons_append, cstZ, cstZ, cst_append]; omega
theorem sum_append : ∀ (A B : Zp), sumZ (A ++ B) = sumZ A + sumZ B
  | [], B => by simp [sumZ]
  | z :: A, B => by rw [List.cons_append, sumZ, sumZ, sum_append]; omega
theorem cst_part (K : Pc → Int) (f : Pc × Int → Bool) : ∀ (Z : Zp), cstZ K Z = cstZ K (Z.filter f) + cstZ K (Z.filter (fun z => !f z))
  | [] => by simp [cstZ]
  | z :: Z => by
    have ih := cst_part K f Z
    cases hf : f z
    · simp only [List.filter_cons, hf, Bool.not_false, if_true, cstZ]
      simp
      omega
    · simp only [List.filter_cons, hf, Bool.not_true, if_true, cstZ]
      simp
      omega
theorem sum_part (f : Pc × Int → Bool) : ∀ (Z : Zp), sumZ Z = sumZ (Z.filter f) + sumZ (Z.filter (fun z => !f z))
  | [] => by simp [sumZ]
  | z :: Z => by
    have ih := sum_part f Z
    cases hf : f z
    · simp only [List.filter_cons, hf, Bool.not_false, if_true, sumZ]
      simp
      omega
    · simp only [List.filter_cons, hf, Bool.not_true, if_true, sumZ]
      simp
      omega
def prP (p : Pc) : Int := p.2.2
def KK (M : Int) (w : Int → Int) (p : Pc) : Int := M * p.2.2 + w p.1
def KU (M w : Int) (u : S24) (q : Int) : Int := M * partF u.f2 q + w * q
theorem partF_0 : ∀ (l : List S99), okL l → partF l 0 = 0
  | [], _ => rfl
  | s :: l, h => by
    have hs := h s List.mem_cons_self
    have e : mn 0 s.f0 = 0 := by unfold mn; rw [if_neg (by omega)]
    rw [partF, e, Int.sub_zero, partF_0 l (fun x hx => h x (List.mem_cons_of_mem _ hx))]
    omega
theorem totS (a : Int) : ∀ (b : Int) (l : List S99), okL l → 0 ≤ b → b ≤ qsum l → totP (addS a b l) = qsum l - b
  | b, [], _, h0, h1 => by simp [qsum] at h1; simp [addS, totP, qsum]; omega
  | b, s :: l, h, h0, h1 => by
    have hs := h s List.mem_cons_self
    have hl : okL l := fun x hx => h x (List.mem_cons_of_mem _ hx)
    have hb := qsum_bound hl
    rw [qsum_cons] at h1 ⊢
    unfold addS
    split
    · rw [totP, totS a 0 l hl (by omega) (by omega)]; simp; omega
    · rw [totS a (b - s.f0) l hl (by omega) (by omega)]; omega
theorem partS (a : Int) : ∀ (b t : Int) (l : List S99), okL l → 0 ≤ b → 0 ≤ t → partF l (b + t) = partF l b + cstZ prP (fillZ t (addS a b l))
  | b, t, [], _, _, _ => by simp [partF, addS, fillZ, cstZ]
  | b, t, s :: l, h, h0, h1 => by
    have hs := h s List.mem_cons_self
    have hl : okL l := fun x hx => h x (List.mem_cons_of_mem _ hx)
    unfold addS
    split
    · rename_i hlt
      have e1 : mn b s.f0 = b := by unfold mn; rw [if_neg (by omega)]
      have e2 : mn (b + t) s.f0 = b + mn t (s.f0 - b) := by unfold mn; split <;> split <;> omega
      have hm := mnb t (s.f0 - b)
      have ih := partS a 0 (t - mn t (s.f0 - b)) l hl (by omega) (by omega)
      rw [partF, partF, e1, e2, fillZ, cstZ, Int.sub_self, partF_0 l hl]
      rw [partF_0 l hl, Int.zero_add, Int.zero_add] at ih
      rw [show b + t - (b + mn t (s.f0 - b)) = t - mn t (s.f0 - b) by omega, ih, Int.add_mul]
      simp only [prP]
      omega
    · have e1 : mn b s.f0 = s.f0 := by unfold mn; split <;> omega
      have e2 : mn (b + t) s.f0 = s.f0 := by unfold mn; split <;> omega
      have ih := partS a (b - s.f0) t l hl (by omega) h1
      rw [partF, partF, e1, e2, show b + t - s.f0 = b - s.f0 + t by omega, ih]
      omega
theorem cst_lin (M : Int) (w : Int → Int) (a : Int) : ∀ (Z : Zp), (∀ z ∈ Z, z.1.1 = a) → cstZ (KK M w) Z = M * cstZ prP Z + w a * sumZ Z
  | [], _ => by simp [cstZ, sumZ]
  | z :: l, h => by
    have h1 := h z List.mem_cons_self
    have ih := cst_lin M w a l (fun x hx => h x (List.mem_cons_of_mem _ hx))
    rw [cstZ, cstZ, sumZ, ih]
    unfold KK prP
    rw [h1, Int.mul_add, Int.mul_add, Int.mul_add, ← Int.mul_assoc, ← Int.mul_assoc, Int.mul_comm z.2 M, Int.mul_comm z.2 (w a)]
    omega
theorem mem_fst {Z : Zp} {l : List Pc} (h : Z.map (·.1) = l) {z : Pc × Int} (hz : z ∈ Z) : z.1 ∈ l := by rw [← h]; exact List.mem_map.2 ⟨z, hz, rfl⟩
theorem u_ok {u : S24} (h : OkU u) (a : Int) : ∀ p ∈ addS a u.f1 u.f2, p.1 = a ∧ 0 < p.2.1 := by
  have hb := okU_bnd h
  intro p hp
  have := addS_mem a u.f1 u.f2 h.min0 (fun s hs => by have := hb.2.2.1 s hs; omega) p hp
  exact ⟨this.1, this.2.1⟩
theorem u_eq {u : S24} (h : OkU u) (M : Int) (w : Int → Int) (a : Int) {t : Int} (h0 : 0 ≤ t) (h1 : u.f1 + t ≤ qsum u.f2) : KU M (w a) u (u.f1 + t) = KU M (w a) u u.f1 + cstZ (KK M w) (fillZ t (addS a u.f1 u.f2)) := by
  have hb := okU_bnd h
  have hm0 := h.min0
  have hm1 := h.min1
  have hp := u_ok h a
  have e := cst_lin M w a (fillZ t (addS a u.f1 u.f2)) (fun z hz => (hp _ (mem_fst (fillZ_fst _ _) hz)).1)
  rw [e, fillZ_sum t _ h0 (by rw [totS a u.f1 u.f2 hb.2.2.1 hm0 hm1]; omega) (fun p hq => by have := (hp p hq).2; omega)]
  unfold KU
  rw [partS a u.f1 t u.f2 hb.2.2.1 hm0 h0, Int.mul_add, Int.mul_add]
  omega
theorem u_le {u : S24} (h : OkU u) {M : Int} (hM : 0 ≤ M) (w : Int → Int) (a : Int) {Z : Zp} (hz : Z.map (·.1) = addS a u.f1 u.f2) (ho : okZ Z) : u.f1 ≤ u.f1 + sumZ Z ∧ u.f1 + sumZ Z ≤ qsum u.f2 ∧ KU M (w a) u (u.f1 + sumZ Z) ≤ KU M (w a) u u.f1 + cstZ (KK M w) Z := by
  have hb := okU_bnd h
  have hm0 := h.min0
  have hm1 := h.min1
  have hs := sumZ_bnd Z ho
  rw [hz, totS a u.f1 u.f2 hb.2.2.1 hm0 hm1] at hs
  have hg := good_u (good_of h)
  have hpre := addS_pre a u.f1 u.f2 hm0 hg.2.2.2.1 hg.2.2.2.2
  have hpr : (Z.map (·.1)).Pairwise (fun x y => KK M w x ≤ KK M w y) := by
    rw [hz]
    refine hpre.imp_of_mem ?_
    intro x y hx hy hxy
    have h1 := (u_ok h a x hx).1
    have h2 := (u_ok h a y hy).1
    unfold KK
    rw [h1, h2]
    have h3 : x.2.2 ≤ y.2.2 := by unfold Pre at hxy; omega
    have := Int.mul_le_mul_of_nonneg_left h3 hM
    omega
  have hk := knap (KK M w) Z hpr ho
  rw [hz] at hk
  refine ⟨by omega, by omega, ?_⟩
  rw [u_eq h M w a hs.1 (by omega)]
  omega
def sumL : List Int → Int
  | [] => 0
  | x :: l => x + sumL l
def KR (M : Int) (w : Int → Int) : Nat → List S24 → List Int → Int
  | i, u :: us, r :: rs => KU M (w i) u r + KR M w (i + 1) us rs
  | _, _, _ => 0
def baseL : List S24 → List Bool → List Int
  | u :: us, b :: bs => (if b then u.f1 else 0) :: baseL us bs
  | _, _ => []
theorem row_pieces (M : Int) (w : Int → Int) : ∀ (i : Nat) (us : List S24) (bs : List Bool) (rs : List Int), (∀ u ∈ us, OkU u) → bs.length = us.length → rs.length = us.length → allR us bs rs = true →
    ∃ Z : Zp, Z.map (·.1) = piecesOf i us bs ∧ okZ Z ∧ KR M w i us rs = KR M w i us (baseL us bs) + cstZ (KK M w) Z ∧ sumL rs = leastF us bs + sumZ Z
  | _, [], _, [], _, _, _, _ => ⟨[], by simp [piecesOf], (fun z hz => nomatch hz), by simp [KR, baseL, cstZ], by simp [sumL, leastF, sumZ]⟩
  | _, _ :: _, [], _, _, h, _, _ => by simp at h
  | _, _ :: _, _ :: _, [], _, _, h, _ => by simp at h
  | _, [], _, _ :: _, _, _, h, _ => by simp at h
  | i, u :: us, b :: bs, r :: rs, ho, h1, h2, ha => by
    rw [allR, Bool.and_eq_true] at ha
    have hu := ho u List.mem_cons_self
    obtain ⟨Z, hZ, hok, hc, hs⟩ := row_pieces M w (i + 1) us bs rs (fun x hx => ho x (List.mem_cons_of_mem _ hx)) (by simpa using h1) (by simpa using h2) ha.2
    have hr := ha.1
    cases b with
    | false =>
      simp [inR] at hr
      subst hr
      refine ⟨Z, by rw [piecesOf, hZ]; rfl, hok, ?_, ?_⟩
      · rw [baseL, KR, KR, hc]; simp; omega
      · rw [sumL, leastF, hs]; simp
    | true =>
      simp [inR] at hr
      have hp := u_ok hu i
      have he := u_eq hu M w i (t := r - u.f1) (by omega) (by omega)
      have hb := okU_bnd hu
      have ht := totS i u.f1 u.f2 hb.2.2.1 hu.min0 hu.min1
      rw [show u.f1 + (r - u.f1) = r by omega] at he
      refine ⟨fillZ (r - u.f1) (addS i u.f1 u.f2) ++ Z, ?_, ?_, ?_, ?_⟩
      · rw [List.map_append, fillZ_fst, piecesOf, hZ]; rfl
      · intro z hz
        rcases List.mem_append.1 hz with hz | hz
        · exact fillZ_ok _ _ (by omega) (fun p hq => by have := (hp p hq).2; omega) z hz
        · exact hok z hz
      · rw [baseL, KR, KR, hc, cst_append, he]; simp; omega
      · rw [sumL, leastF, hs, sum_append, fillZ_sum _ _ (by omega) (by rw [ht]; omega) (fun p hq => by have := (hp p hq).2; omega)]; simp; omega
abbrev atU (a : Int) (Z : Zp) : Zp := Z.filter (fun z => z.1.1 == a)
def gRow : Nat → List S24 → List Bool → Zp → List Int
  | i, u :: us, b :: bs, Z => ((if b then u.f1 else 0) + sumZ (atU i Z)) :: gRow (i + 1) us bs Z
  | _, _, _, _ => []
def cstU (K : Pc → Int) (Z : Zp) : Nat → Nat → Int
  | _, 0 => 0
  | i, n + 1 => cstZ K (atU i Z) + cstU K Z (i + 1) n
def sumU (Z : Zp) : Nat → Nat → Int
  | _, 0 => 0
  | i, n + 1 => sumZ (atU i Z) + sumU Z (i + 1) n
theorem atU_rest (a b : Int) (h : a ≠ b) (Z : Zp) : atU a (Z.filter (fun z => !(z.1.1 == b))) = atU a Z := by
  unfold atU
  rw [List.filter_filter]
  congr 1
  funext z
  by_cases hz : z.1.1 = a
  · have : ¬ z.1.1 = b := by omega
    simp [hz, h]
  · simp [hz]
theorem cstU_rest (K : Pc → Int) (b : Int) (Z : Zp) : ∀ (n i : Nat), b < (i : Int) → cstU K (Z.filter (fun z => !(z.1.1 == b))) i n = cstU K Z i n
  | 0, _, _ => rfl
  | n + 1, i, h => by
    rw [cstU, cstU, atU_rest _ _ (by omega), cstU_rest K b Z n (i + 1) (by omega)]
theorem sumU_rest (b : Int) (Z : Zp) : ∀ (n i : Nat), b < (i : Int) → sumU (Z.filter (fun z => !(z.1.1 == b))) i n = sumU Z i n
  | 0, _, _ => rfl
  | n + 1, i, h => by
    rw [sumU, sumU, atU_rest _ _ (by omega), sumU_rest b Z n (i + 1) (by omega)]
theorem cstU_all (K : Pc → Int) : ∀ (n i : Nat) (Z : Zp), (∀ z ∈ Z, (i : Int) ≤ z.1.1 ∧ z.1.1 < (i : Int) + n) → cstZ K Z = cstU K Z i n ∧ sumZ Z = sumU Z i n
  | 0, i, Z, h => by
    match Z with
    | [] => exact ⟨rfl, rfl⟩
    | z :: l => exact absurd (h z List.mem_cons_self) (by omega)
  | n + 1, i, Z, h => by
    have hr : ∀ z ∈ Z.filter (fun z => !(z.1.1 == (i : Int))), ((i + 1 : Nat) : Int) ≤ z.1.1 ∧ z.1.1 < ((i + 1 : Nat) : Int) + n := by
      intro z hz
      rw [List.mem_filter] at hz
      have h1 := h z hz.1
      have h2 := hz.2
      simp at h2
      omega
    have ih := cstU_all K n (i + 1) _ hr
    rw [cstU_rest K _ Z n (i + 1) (by omega), sumU_rest _ Z n (i + 1) (by omega)] at ih
    rw [cst_part K (fun z => z.1.1 == (i : Int)) Z, sum_part (fun z => z.1.1 == (i : Int)) Z, ih.1, ih.2]
    exact ⟨rfl, rfl⟩
theorem pieces_at (i : Nat) (u : S24) (us : List S24) (b : Bool) (bs : List Bool) (ho : ∀ x ∈ u :: us, OkU x) : (piecesOf i (u :: us) (b :: bs)).filter (fun p => p.1 == (i : Int)) = (if b then addS i u.f1 u.f2 else []) := by
  have hu := u_ok (ho u List.mem_cons_self) i
  have ht := pieces_mem (i + 1) us bs (fun x hx => good_of (ho x (List.mem_cons_of_mem _ hx)))
  have e : (piecesOf (i + 1) us bs).filter (fun p => p.1 == (i : Int)) = [] := by
    rw [List.filter_eq_nil_iff]
    intro p hp
    have := ht p hp
    simp
    omega
  rw [piecesOf, List.filter_append, e, List.append_nil]
  cases b with
  | false => rfl
  | true =>
    simp only [if_true]
    rw [List.filter_eq_self]
    intro p hp
    simp [(hu p hp).1]
theorem pieces_next (i : Nat) (u : S24) (us : List S24) (b : Bool) (bs : List Bool) (ho : ∀ x ∈ u :: us, OkU x) (a : Int) (ha : (i : Int) < a) : (piecesOf i (u :: us) (b :: bs)).filter (fun p => p.1 == a) = (piecesOf (i + 1) us bs).filter (fun p => p.1 == a) := by
  have hu := u_ok (ho u List.mem_cons_self) i
  have e : (if b then addS i u.f1 u.f2 else []).filter (fun p => p.1 == a) = [] := by
    rw [List.filter_eq_nil_iff]
    intro p hp
    cases b with
    | false => simp at hp
    | true =>
      have := (hu p hp).1
      simp
      omega
  rw [piecesOf, List.filter_append, e, List.nil_append]
theorem greedy_row {M : Int} (hM : 0 ≤ M) (w : Int → Int) (Z : Zp) (hok : okZ Z) : ∀ (i : Nat) (us : List S24) (bs : List Bool), (∀ u ∈ us, OkU u) → bs.length = us.length → (∀ a : Int, (i : Int) ≤ a → (Z.map (·.1)).filter (fun p => p.1 == a) = (piecesOf i us bs).filter (fun p => p.1 == a)) →
    KR M w i us (gRow i us bs Z) ≤ KR M w i us (baseL us bs) + cstU (KK M w) Z i us.length ∧ allR us bs (gRow i us bs Z) = true ∧ sumL (gRow i us bs Z) = leastF us bs + sumU Z i us.length
  | _, [], [], _, _, _ => by simp [KR, gRow, baseL, cstU, allR, sumL, leastF, sumU]
  | _, [], _ :: _, _, h, _ => by simp at h
  | _, _ :: _, [], _, h, _ => by simp at h
  | i, u :: us, b :: bs, ho, h1, hF => by
    have hu := ho u List.mem_cons_self
    have ih := greedy_row hM w Z hok (i + 1) us bs (fun x hx => ho x (List.mem_cons_of_mem _ hx)) (by simpa using h1) (fun a ha => by rw [hF a (by omega), pieces_next i u us b bs ho a (by omega)])
    have hZ : (atU i Z).map (·.1) = (if b then addS i u.f1 u.f2 else []) := by
      rw [← pieces_at i u us b bs ho, ← hF i (Int.le_refl _), List.filter_map]
      rfl
    have hoa : okZ (atU i Z) := fun z hz => hok z (List.mem_filter.1 hz).1
    rw [gRow, baseL, KR, KR, List.length_cons, cstU, sumU, allR, sumL, leastF]
    cases b with
    | false =>
      have hn : atU i Z = [] := by
        have : ((atU i Z).map (·.1)).length = 0 := by rw [hZ]; rfl
        exact List.eq_nil_of_length_eq_zero (by simpa using this)
      rw [hn]
      simp only [sumZ, cstZ]
      refine ⟨by simp; omega, by rw [ih.2.1]; simp [inR], by simp; omega⟩
    | true =>
      simp only [if_true] at hZ
      have hle := u_le hu hM w i hZ hoa
      refine ⟨by simp only [if_true]; omega, ?_, by simp only [if_true]; omega⟩
      rw [ih.2.1]
      simp only [if_true, inR, Bool.and_true, Bool.and_eq_true, decide_eq_true_eq]
      exact ⟨hle.1, hle.2.1⟩
theorem gRow_len : ∀ (i : Nat) (us : List S24) (bs : List Bool) (Z : Zp), bs.length = us.length → (gRow i us bs Z).length = us.length
  | _, [], _, _, _ => by simp [gRow]
  | _, _ :: _, [], _, h => by simp at h
  | i, u :: us, b :: bs, Z, h => by rw [gRow, List.length_cons, gRow_len (i + 1) us bs Z (by simpa using h), List.length_cons]
theorem gRow_get : ∀ (i : Nat) (us : List S24) (bs : List Bool) (Z : Zp) (j : Nat), bs.length = us.length → j < us.length → (gRow i us bs Z).getD j 0 = (baseL us bs).getD j 0 + sumZ (atU ((i + j : Nat) : Int) Z)
  | _, [], _, _, j, _, h => by simp at h
  | _, _ :: _, [], _, _, h, _ => by simp at h
  | i, u :: us, b :: bs, Z, 0, h, _ => by simp [gRow, baseL]
  | i, u :: us, b :: bs, Z, j + 1, h, hj => by
    have ih := gRow_get (i + 1) us bs Z j (by simpa using h) (by simpa using hj)
    rw [gRow, baseL, List.getD_cons_succ, List.getD_cons_succ, ih, show i + 1 + j = i + (j + 1) by omega]
theorem baseL_len : ∀ (us : List S24) (bs : List Bool), bs.length = us.length → (baseL us bs).length = us.length
  | [], _, _ => by simp [baseL]
  | _ :: _, [], h => by simp at h
  | u :: us, b :: bs, h => by rw [baseL, List.length_cons, baseL_len us bs (by simpa using h), List.length_cons]
theorem fillR_base : ∀ (us : List S24) (bs : List Bool) (pre : List Int), bs.length = us.length → fillR pre.length us bs (pre ++ List.replicate us.length 0) = pre ++ baseL us bs
  | [], [], pre, _ => by simp [fillR, baseL]
  | [], _ :: _, _, h => by simp at h
  | _ :: _, [], _, h => by simp at h
  | u :: us, b :: bs, pre, h => by
    have ih := fillR_base us bs (pre ++ [if b then u.f1 else 0]) (by simpa using h)
    rw [List.length_append, List.length_singleton] at ih
    rw [fillR, baseL, List.length_cons, List.replicate_succ]
    have e : (if b then (pre ++ 0 :: List.replicate us.length 0).set pre.length u.f1 else pre ++ 0 :: List.replicate us.length 0) = pre ++ [if b then u.f1 else 0] ++ List.replicate us.length 0 := by
      cases b
      · simp
      · simp only [if_true]
        rw [set_mid]
        simp
    rw [e, ih]
    simp
theorem takeP_len : ∀ (t : Int) (l : List Pc) (row : List Int), (takeP t l row).length = row.length
  | _, [], _ => rfl
  | t, p :: l, row => by rw [takeP, takeP_len, List.length_set]
theorem takeP_get : ∀ (t : Int) (l : List Pc) (row : List Int) (j : Nat), (∀ p ∈ l, 0 ≤ p.1 ∧ p.1 < (row.length : Int)) → j < row.length → (takeP t l row).getD j 0 = row.getD j 0 + sumZ (atU (j : Int) (fillZ t l))
  | _, [], row, j, _, _ => by simp [takeP, fillZ, sumZ]
  | t, p :: l, row, j, h, hj => by
    have hp := h p List.mem_cons_self
    have ih := takeP_get (t - mn t p.2.1) l (row.set p.1.toNat (rd row p.1 + mn t p.2.1)) j (fun q hq => by rw [List.length_set]; exact h q (List.mem_cons_of_mem _ hq)) (by rw [List.length_set]; exact hj)
    rw [takeP, ih, fillZ]
    by_cases e : p.1 = (j : Int)
    · have e2 : p.1.toNat = j := by omega
      have e3 : rd row p.1 = row.getD j 0 := by unfold YtelklgdmhnkenaaW.PrintWords.rd; rw [e2]
      rw [e2, e3]
      simp [atU, List.filter_cons, e, sumZ, List.getElem?_set, hj]
      omega
    · have e2 : p.1.toNat ≠ j := by omega
      simp [atU, List.filter_cons, e, List.getElem?_set, e2]
theorem totP_append : ∀ (a b : List Pc), totP (a ++ b) = totP a + totP b
  | [], b => by simp [totP]
  | p :: a, b => by rw [List.cons_append, totP, totP, totP_append]; omega
theorem totP_perm {a b : List Pc} (h : a.Perm b) : totP a = totP b := by
  induction h with
  | nil => rfl
  | cons x _ ih => rw [totP, totP, ih]
  | swap x y l => rw [totP, totP, totP, totP]; omega
  | trans _ _ h1 h2 => exact h1.trans h2
theorem tot_pieces : ∀ (i : Nat) (us : List S24) (bs : List Bool), (∀ u ∈ us, OkU u) → totP (piecesOf i us bs) = mostF us bs - leastF us bs
  | _, [], _, _ => by simp [piecesOf, totP, mostF, leastF]
  | _, _ :: _, [], _ => by simp [piecesOf, totP, mostF, leastF]
  | i, u :: us, b :: bs, h => by
    have hu := h u List.mem_cons_self
    have hb := okU_bnd hu
    have ih := tot_pieces (i + 1) us bs (fun x hx => h x (List.mem_cons_of_mem _ hx))
    rw [piecesOf, totP_append, ih, mostF, leastF]
    cases b with
    | false => simp [totP]
    | true =>
      simp only [if_true]
      rw [totS i u.f1 u.f2 hb.2.2.1 hu.min0 hu.min1]
      omega
theorem anti {ps : List Pc} (h : ps.Pairwise Pre) {a b : Pc} (ha : a ∈ ps) (hb : b ∈ ps) (h1 : lePc a b = true) (h2 : lePc b a = true) : a = b := by
  rw [lePc_t] at h1 h2
  rcases pre_or h a ha b hb with h | h | h
  · exact h
  · unfold Pre at h; omega
  · unfold Pre at h; omega
theorem srt_perm (ps : List Pc) : (srtP ps).Perm ps := List.mergeSort_perm ps lePc
theorem srt_pw (ps : List Pc) : (srtP ps).Pairwise (fun x y => lePc x y = true) := List.pairwise_mergeSort (by intro a b c h1 h2; rw [lePc_t] at *; omega) lePc_total ps
theorem srt_filter {ps : List Pc} (h : ps.Pairwise Pre) (a : Int) : (srtP ps).filter (fun p => p.1 == a) = ps.filter (fun p => p.1 == a) := by
  refine List.Perm.eq_of_pairwise (le := fun x y => lePc x y = true) ?_ ((srt_pw ps).filter _) ?_ ((srt_perm ps).filter _)
  · intro x y hx hy h1 h2
    exact anti h ((srt_perm ps).mem_iff.1 (List.mem_filter.1 hx).1) (List.mem_filter.1 hy).1 h1 h2
  · refine (h.filter _).imp_of_mem ?_
    intro x y hx hy hxy
    have h1 := (List.mem_filter.1 hx).2
    have h2 := (List.mem_filter.1 hy).2
    simp at h1 h2
    rw [lePc_t]
    unfold Pre at hxy
    omega
structure Wok (M : Int) (w : Int → Int) : Prop where
  m0 : 0 ≤ M
  dec : ∀ a b, 0 ≤ a → a ≤ b → b < 5 → w b ≤ w a
  bnd : ∀ a b, 0 ≤ a → a < 5 → 0 ≤ b → b < 5 → w a - w b ≤ M
theorem key_le {M : Int} {w : Int → Int} (hw : Wok M w) {x y : Pc} (hx : 0 ≤ x.1 ∧ x.1 < 5) (hy : 0 ≤ y.1 ∧ y.1 < 5) (h : lePc x y = true) : KK M w x ≤ KK M w y := by
  rw [lePc_t] at h
  unfold KK
  by_cases e : x.2.2 = y.2.2
  · have := hw.dec y.1 x.1 hy.1 (by omega) hx.2
    rw [e]
    omega
  · have hb := hw.bnd x.1 y.1 hx.1 hx.2 hy.1 hy.2
    have h1 : x.2.2 + 1 ≤ y.2.2 := by omega
    have := Int.mul_le_mul_of_nonneg_left h1 hw.m0
    rw [Int.mul_add, Int.mul_one] at this
    omega
theorem alloc_opt {l0 : List S24} {l1 : List Bool} {d : Int} (hc : ckF l0 l1 = 0) (h0 : leastF l0 l1 ≤ d) (h1 : d ≤ mostF l0 l1) :
    (allocRow l0 l1 (d - leastF l0 l1)).length = l0.length ∧ allR l0 l1 (allocRow l0 l1 (d - leastF l0 l1)) = true ∧ sumL (allocRow l0 l1 (d - leastF l0 l1)) = d ∧
    ∀ (M : Int) (w : Int → Int), Wok M w → ∀ r : List Int, r.length = l0.length → allR l0 l1 r = true → sumL r = d → KR M w 0 l0 (allocRow l0 l1 (d - leastF l0 l1)) ≤ KR M w 0 l0 r := by
  obtain ⟨h5, hl1, ho⟩ := ck_ok hc
  have hgood : ∀ u ∈ l0, goodU u = true := fun u hu => good_of (ho u hu)
  have hpre := pieces_pre 0 l0 l1 hgood
  have hmem := pieces_mem 0 l0 l1 hgood
  have hperm := srt_perm (piecesOf 0 l0 l1)
  have hmr : ∀ p ∈ srtP (piecesOf 0 l0 l1), 0 ≤ p.1 ∧ p.1 < (l0.length : Int) ∧ 0 < p.2.1 := by
    intro p hp
    have := hmem p (hperm.mem_iff.1 hp)
    omega
  have htot : totP (srtP (piecesOf 0 l0 l1)) = mostF l0 l1 - leastF l0 l1 := by rw [totP_perm hperm, tot_pieces 0 l0 l1 ho]
  have hq0 : ∀ p ∈ srtP (piecesOf 0 l0 l1), 0 ≤ p.2.1 := fun p hp => by have := hmr p hp; omega
  obtain ⟨left, hleft⟩ : ∃ x, x = d - leastF l0 l1 := ⟨_, rfl⟩
  rw [← hleft]
  have hok := fillZ_ok left (srtP (piecesOf 0 l0 l1)) (by omega) hq0
  have hsum := fillZ_sum left (srtP (piecesOf 0 l0 l1)) (by omega) (by omega) hq0
  have hfst := fillZ_fst left (srtP (piecesOf 0 l0 l1))
  have hrange : ∀ z ∈ fillZ left (srtP (piecesOf 0 l0 l1)), ((0 : Nat) : Int) ≤ z.1.1 ∧ z.1.1 < ((0 : Nat) : Int) + l0.length := by
    intro z hz
    have := hmr z.1 (mem_fst hfst hz)
    omega
  have hF : ∀ a : Int, ((0 : Nat) : Int) ≤ a → ((fillZ left (srtP (piecesOf 0 l0 l1))).map (·.1)).filter (fun p => p.1 == a) = (piecesOf 0 l0 l1).filter (fun p => p.1 == a) := fun a _ => by rw [hfst]; exact srt_filter hpre a
  have hbase : fillR 0 l0 l1 (List.replicate l0.length 0) = baseL l0 l1 := by
    have := fillR_base l0 l1 [] hl1
    simpa using this
  have hg : allocRow l0 l1 left = gRow 0 l0 l1 (fillZ left (srtP (piecesOf 0 l0 l1))) := by
    unfold allocRow
    rw [hbase]
    have hbl := baseL_len l0 l1 hl1
    have e1 : (takeP left (srtP (piecesOf 0 l0 l1)) (baseL l0 l1)).length = (gRow 0 l0 l1 (fillZ left (srtP (piecesOf 0 l0 l1)))).length := by rw [takeP_len, hbl, gRow_len 0 l0 l1 _ hl1]
    refine List.ext_getElem e1 fun j hj1 hj2 => ?_
    have hj : j < l0.length := by rw [takeP_len, hbl] at hj1; exact hj1
    have a1 := takeP_get left (srtP (piecesOf 0 l0 l1)) (baseL l0 l1) j (fun p hp => by rw [hbl]; have := hmr p hp; omega) (by rw [hbl]; exact hj)
    have a2 := gRow_get 0 l0 l1 (fillZ left (srtP (piecesOf 0 l0 l1))) j hl1 hj
    rw [Nat.zero_add, ← a1] at a2
    simp only [List.getD_eq_getElem?_getD, List.getElem?_eq_getElem hj1, List.getElem?_eq_getElem hj2, Option.getD_some] at a2
    exact a2.symm
  rw [hg]
  have hgr := fun (M : Int) (hM : 0 ≤ M) (w : Int → Int) => greedy_row hM w (fillZ left (srtP (piecesOf 0 l0 l1))) hok 0 l0 l1 ho hl1 hF
  have hg0 := hgr 0 (Int.le_refl _) (fun _ => 0)
  refine ⟨gRow_len 0 l0 l1 _ hl1, hg0.2.1, ?_, ?_⟩
  · have := (cstU_all (KK 0 (fun _ => 0)) l0.length 0 _ hrange).2
    rw [hg0.2.2, ← this, hsum]
    omega
  · intro M w hw r hrl hra hrs
    have h1 := (hgr M hw.m0 w).1
    rw [← (cstU_all (KK M w) l0.length 0 _ hrange).1] at h1
    obtain ⟨Zr, hz1, hz2, hz3, hz4⟩ := row_pieces M w 0 l0 l1 r ho hl1 hrl hra
    obtain ⟨Z', hp1, hp2⟩ := perm_lift hperm.symm Zr hz1
    have hpw : (Z'.map (·.1)).Pairwise (fun x y => KK M w x ≤ KK M w y) := by
      rw [hp2]
      refine (srt_pw _).imp_of_mem ?_
      intro x y hx hy hxy
      have a := hmr x hx
      have b := hmr y hy
      exact key_le hw (by omega) (by omega) hxy
    have hk := knap (KK M w) Z' hpw (fun z hz => hz2 z (hp1.mem_iff.1 hz))
    rw [hp2, cst_perm (KK M w) hp1, sum_perm hp1, show sumZ Zr = left by omega] at hk
    omega
end Go.Proofs.Ytelklgdmhnkenaa.U
namespace Go.Proofs.Ytelklgdmhnkenaa.U
attribute [local go_sem] max2_int min2_int max_two min_two max_three min_three max_four min_four
def pylonref28_Same.l0 : Nat → List Int → List Int → Int → Option (Bool)
 | 0, _, _, _ => none
 | k + 1, x0, x1, x5 => if x5 < (x0.length : Int) then (if 0 ≤ x5 then (if x5 < (x1.length : Int) then (if (rd x0 x5) = (rd x1 x5) then (pylonref28_Same.l0 k x0 x1 (wrap64 (x5 + 1))) else (some false)) else (none)) else (none)) else (some true)
def pylonref28_Same.f (k : Nat) (l0 : List Int) (l1 : List Int) : Option (Bool) := if (l0.length : Int) = (l1.length : Int) then (pylonref28_Same.l0 k l0 l1 0) else (some false)
set_option maxHeartbeats 8000000 in
set_option maxRecDepth 100000 in
theorem pylonref28_Same.calls (k : Nat) (A0 : Option Addr) (c0 : Nat) (l0 : List Int) (A1 : Option Addr) (c1 : Nat) (l1 : List Int) (r : Bool) (w : World) (hr0 : Kd.C (Kd.int .i64) w A0 l0.length l0) (hc0 : l0.length ≤ c0) (hr1 : Kd.C (Kd.int .i64) w A1 l1.length l1) (hc1 : l1.length ≤ c1) (h : pylonref28_Same.f k l0 l1 = some r) :
  Calls Try.prog 36 #[.slice A0 l0.length c0, .slice A1 l1.length c1] w fun e w' => e = .returned (.bool r) ∧ Drawn0 w w' := by
 have HR0 := Aside0.mk hr0
 clear hr0 hc0
 have HR1 := Aside0.mk hr1
 clear hr1 hc1
 have H : (if (l0.length : Int) = (l1.length : Int) then (pylonref28_Same.l0 k l0 l1 0) else (some false)) = some r := h
 clear h
 by_cases c3 : (l0.length : Int) = (l1.length : Int)
 ·rw [if_pos c3] at H
  have c3b1 : ((l0.length : Int) != (l1.length : Int)) = false := bne_eq_false_iff_eq.mpr c3
  clear c3
  have H' := Aside0.mk H
  clear H
  go_enter Try.func36, Try.ntmps36
  go_wp2
  repeat (go_quiet (fail); try go_wp2)
  go_loopg [5] k (fun kq v5 w' => ∃ (x5_1 : Int), v5 = .int .i64 x5_1 ∧ Aside0 (pylonref28_Same.l0 kq l0 l1 x5_1 = some r) ∧ Aside0 (kq ≤ k) ∧ Drawn0 w w')
  case atStart => exact ⟨(0), m_14, H', ⟨Nat.le_refl _⟩, m_28⟩
  case round =>
   clear H'
   (try clear c1); (try clear p2); (try clear c3); (try skip); (try clear c3b1); (try skip)
   obtain ⟨x5_1, rfl, HA, HK1, ⟨m1, rfl⟩⟩ := hrel
   cases gk with
   | zero => exact absurd HA.out (by simp [pylonref28_Same.l0])
   | succ k1 =>
    have H := HA.out
    clear HA
    simp only [pylonref28_Same.l0] at H
    by_cases c4 : x5_1 < (l0.length : Int)
    ·rw [if_pos c4] at H
     have c4b0 : decide (x5_1 < (l0.length : Int)) = true := decide_eq_true c4
     clear c4
     by_cases c5 : 0 ≤ x5_1
     ·rw [if_pos c5] at H
      have c5b0 : decide (0 ≤ x5_1) = true := decide_eq_true c5
      clear c5
      by_cases c6 : x5_1 < (l1.length : Int)
      ·rw [if_pos c6] at H
       have c6b0 : decide (x5_1 < (l1.length : Int)) = true := decide_eq_true c6
       clear c6
       by_cases c7 : (rd l0 x5_1) = (rd l1 x5_1)
       ·rw [if_pos c7] at H
        have c7b1 : ((rd l0 x5_1) != (rd l1 x5_1)) = false := bne_eq_false_iff_eq.mpr c7
        clear c7
        have H' := Aside0.mk H
        clear H
        have p734 : 0 ≤ (x5_1 : Int) := of_decide_eq_true m_10
        have q734 : x5_1 < (l0.length : Int) := of_decide_eq_true m_10
        obtain ⟨ad734, e734, hx734_0⟩ := Kd.at_int HR0.out x5_1 p734 q734
        cases e734
        replace p734 := eq_true p734
        replace q734 := eq_true q734
        have p735 : 0 ≤ (x5_1 : Int) := of_decide_eq_true m_10
        have q735 : x5_1 < (l1.length : Int) := of_decide_eq_true m_10
        obtain ⟨ad735, e735, hx735_0⟩ := Kd.at_int HR1.out x5_1 p735 q735
        cases e735
        replace q735 := eq_true q735
        go_wp2
        repeat (go_quiet (fail); try go_wp2)
        go_roundg k1
        case measure => have := HK1.out; omega
        case rel => exact ⟨(wrap64 (x5_1 + 1)), m_14, H', ⟨m_117⟩, m_28⟩
       ·rw [if_neg c7] at H
        have c7b1 : ((rd l0 x5_1) != (rd l1 x5_1)) = true := bne_iff_ne.mpr c7
        obtain rfl := Option.some.inj H
        have p734 : 0 ≤ (x5_1 : Int) := of_decide_eq_true m_10
        have q734 : x5_1 < (l0.length : Int) := of_decide_eq_true m_10
        obtain ⟨ad734, e734, hx734_0⟩ := Kd.at_int HR0.out x5_1 p734 q734
        cases e734
        replace p734 := eq_true p734
        replace q734 := eq_true q734
        have p735 : 0 ≤ (x5_1 : Int) := of_decide_eq_true m_10
        have q735 : x5_1 < (l1.length : Int) := of_decide_eq_true m_10
        obtain ⟨ad735, e735, hx735_0⟩ := Kd.at_int HR1.out x5_1 p735 q735
        cases e735
        replace q735 := eq_true q735
        go_wp2
        repeat (go_quiet (fail); try go_wp2)
        go_ret
        exact ⟨m_14, m_28⟩
      ·rw [if_neg c6] at H
       exact absurd H (by simp)
     ·rw [if_neg c5] at H
      exact absurd H (by simp)
    ·rw [if_neg c4] at H
     have c4b0 : decide (x5_1 < (l0.length : Int)) = false := decide_eq_false c4
     clear c4
     obtain rfl := Option.some.inj H
     go_wp2
     repeat (go_quiet (fail); try go_wp2)
     go_ret
     exact ⟨m_14, m_28⟩
 ·rw [if_neg c3] at H
  have c3b1 : ((l0.length : Int) != (l1.length : Int)) = true := bne_iff_ne.mpr c3
  obtain rfl := Option.some.inj H
  go_enter Try.func36, Try.ntmps36
  go_wp2
  repeat (go_quiet (fail); try go_wp2)
  go_ret
  exact ⟨m_14, m_28⟩
end Go.Proofs.Ytelklgdmhnkenaa.U
namespace Go.Proofs.Ytelklgdmhnkenaa.U
attribute [local go_sem] max2_int min2_int max_two min_two max_three min_three max_four min_four
def pylonlaw28_gives.f (k : Nat) (l0 : List (S24)) (l1 : List Bool) (a2 : Int) (a3 : Int) (l4 : List Int) : Option (Bool) := (energy_Allocate.f k l0 l1 a2).bind fun bt736 => ((energy_LeastCost.f k l0 l1 a2).bind fun bt740 => ((energy_Cost.f k l0 l1 l4).bind fun bt742 => (if bt736.2 = 0 then (if bt740.2 = 0 then (if bt742.2 = 0 then (if bt740.1 = a3 then (if bt742.1 = a3 then ((pylonref28_Same.f k bt736.1 l4).bind fun t744 => (some t744)) else (none)) else (none)) else (none)) else (none)) else (none))))
set_option maxHeartbeats 8000000 in
set_option maxRecDepth 100000 in
theorem pylonlaw28_gives.calls (k : Nat) (A0 : Option Addr) (c0 : Nat) (l0 : List (S24)) (A1 : Option Addr) (c1 : Nat) (l1 : List Bool) (a2 : Int) (a3 : Int) (A4 : Option Addr) (c4 : Nat) (l4 : List Int) (r : Bool) (w : World) (hr0 : Kd.C k24 w A0 l0.length l0) (hc0 : l0.length ≤ c0) (hr1 : Kd.C Kd.bool w A1 l1.length l1) (hc1 : l1.length ≤ c1) (hr4 : Kd.C (Kd.int .i64) w A4 l4.length l4) (hc4 : l4.length ≤ c4) (h : pylonlaw28_gives.f k l0 l1 a2 a3 l4 = some r) :
  Calls Try.prog 53 #[.slice A0 l0.length c0, .slice A1 l1.length c1, .int .i64 a2, .int .i64 a3, .slice A4 l4.length c4] w fun e w' => e = .returned (.bool r) ∧ Below w.heap.size w w' := by
 have HR0 := Aside0.mk hr0
 have HC0 := Aside0.mk hc0
 clear hr0 hc0
 have HR1 := Aside0.mk hr1
 have HC1 := Aside0.mk hc1
 clear hr1 hc1
 have HR4 := Aside0.mk hr4
 have HC4 := Aside0.mk hc4
 clear hr4 hc4
 have HB := Aside0.mk (Below.refl w.heap.size w)
 have H : ((energy_Allocate.f k l0 l1 a2).bind fun bt736 => ((energy_LeastCost.f k l0 l1 a2).bind fun bt740 => ((energy_Cost.f k l0 l1 l4).bind fun bt742 => (if bt736.2 = 0 then (if bt740.2 = 0 then (if bt742.2 = 0 then (if bt740.1 = a3 then (if bt742.1 = a3 then ((pylonref28_Same.f k bt736.1 l4).bind fun t744 => (some t744)) else (none)) else (none)) else (none)) else (none)) else (none))))) = some r := h
 clear h
 replace H := Option.bind_eq_some_iff.mp H
 obtain ⟨⟨t736, t737⟩, A60, H⟩ := H
 replace H : ((energy_LeastCost.f k l0 l1 a2).bind fun bt740 => ((energy_Cost.f k l0 l1 l4).bind fun bt742 => (if t737 = 0 then (if bt740.2 = 0 then (if bt742.2 = 0 then (if bt740.1 = a3 then (if bt742.1 = a3 then ((pylonref28_Same.f k t736 l4).bind fun t744 => (some t744)) else (none)) else (none)) else (none)) else (none)) else (none)))) = some r := H
 have A6 := Aside0.mk A60
 clear A60
 replace H := Option.bind_eq_some_iff.mp H
 obtain ⟨⟨t740, t741⟩, A70, H⟩ := H
 replace H : ((energy_Cost.f k l0 l1 l4).bind fun bt742 => (if t737 = 0 then (if t741 = 0 then (if bt742.2 = 0 then (if t740 = a3 then (if bt742.1 = a3 then ((pylonref28_Same.f k t736 l4).bind fun t744 => (some t744)) else (none)) else (none)) else (none)) else (none)) else (none))) = some r := H
 have A7 := Aside0.mk A70
 clear A70
 replace H := Option.bind_eq_some_iff.mp H
 obtain ⟨⟨t742, t743⟩, A80, H⟩ := H
 replace H : (if t737 = 0 then (if t741 = 0 then (if t743 = 0 then (if t740 = a3 then (if t742 = a3 then ((pylonref28_Same.f k t736 l4).bind fun t744 => (some t744)) else (none)) else (none)) else (none)) else (none)) else (none)) = some r := H
 have A8 := Aside0.mk A80
 clear A80
 by_cases c9 : t737 = 0
 ·rw [if_pos c9] at H
  have c9b0 : (t737 == 0) = true := beq_iff_eq.mpr c9
  clear c9
  by_cases c10 : t741 = 0
  ·rw [if_pos c10] at H
   have c10b0 : (t741 == 0) = true := beq_iff_eq.mpr c10
   clear c10
   by_cases c11 : t743 = 0
   ·rw [if_pos c11] at H
    have c11b0 : (t743 == 0) = true := beq_iff_eq.mpr c11
    clear c11
    by_cases c12 : t740 = a3
    ·rw [if_pos c12] at H
     have c12b0 : (t740 == a3) = true := beq_iff_eq.mpr c12
     clear c12
     by_cases c13 : t742 = a3
     ·rw [if_pos c13] at H
      have c13b0 : (t742 == a3) = true := beq_iff_eq.mpr c13
      clear c13
      replace H := Option.bind_eq_some_iff.mp H
      obtain ⟨t744, A140, H⟩ := H
      replace H : (some t744) = some r := H
      have A14 := Aside0.mk A140
      clear A140
      obtain rfl := Option.some.inj H
      go_enter Try.func53, Try.ntmps53
      go_wp2_with (first | ((with_reducible refine gate_callee (f := 32) rfl ?_); refine goesL_ (some 21) rfl rfl Try.func32 m_19 rfl #[.slice A0 l0.length c0, .slice A1 l1.length c1, .int .i64 a2] rfl m_2 ?_; (with_reducible refine (energy_Allocate.calls k _ _ l0 _ _ l1 a2 t736 t737 _ ?side1 ?side2 ?side3 ?side4 A6.out).mono ?_); (case side1 => exact cA_ HR0.out); (case side2 => exact HC0.out); (case side3 => exact cA_ HR1.out); (case side4 => exact HC1.out); rintro e w15 ⟨v738, rfl, ho0, hb⟩; refine ⟨_, rfl, ?_⟩; have HO739 := Aside0.mk (Kd.R_lower ho0 (below_size m_1)); replace HB := Aside0.mk (below_step m_1 hb); clear hb; (try clear ho0)) | ((with_reducible refine gate_callee (f := 33) rfl ?_); refine goesL_ (some 28) rfl rfl Try.func33 m_19 rfl #[.slice A0 l0.length c0, .slice A1 l1.length c1, .int .i64 a2] rfl m_2 ?_; (with_reducible refine (energy_LeastCost.calls k _ _ l0 _ _ l1 a2 t740 t741 _ ?side1 ?side2 ?side3 ?side4 A7.out).mono ?_); (case side1 => exact cA_ (Kd.C_below HR0.out HB.out)); (case side2 => exact HC0.out); (case side3 => exact cA_ (Kd.C_below HR1.out HB.out)); (case side4 => exact HC1.out); rintro e w16 ⟨rfl, hb⟩; refine ⟨_, rfl, ?_⟩; replace HO739 := rB_ HO739 hb; replace HB := Aside0.mk (below_step m_1 hb); clear hb) | ((with_reducible refine gate_callee (f := 31) rfl ?_); refine goesL_ (some 35) rfl rfl Try.func31 m_19 rfl #[.slice A0 l0.length c0, .slice A1 l1.length c1, .slice A4 l4.length c4] rfl m_2 ?_; (with_reducible refine (energy_Cost.calls k _ _ l0 _ _ l1 _ _ l4 t742 t743 _ ?side1 ?side2 ?side3 ?side4 ?side5 ?side6 A8.out).mono ?_); (case side1 => exact cA_ (Kd.C_below HR0.out HB.out)); (case side2 => exact HC0.out); (case side3 => exact cA_ (Kd.C_below HR1.out HB.out)); (case side4 => exact HC1.out); (case side5 => exact cA_ (Kd.C_below HR4.out HB.out)); (case side6 => exact HC4.out); rintro e w17 ⟨rfl, hb⟩; refine ⟨_, rfl, ?_⟩; replace HO739 := rB_ HO739 hb; replace HB := Aside0.mk (below_step m_1 hb); clear hb; obtain ⟨Ao18, co18, eo18⟩ := Kd.R_slice HO739.out; subst eo18) | (go_at_call 36; (with_reducible refine (pylonref28_Same.calls k _ _ t736 _ _ l4 t744 _ ?side1 ?side2 ?side3 ?side4 A14.out).mono ?_); (case side1 => exact cA_ (Kd.R_reads' HO739.out).2.2); (case side2 => exact (Kd.R_reads' HO739.out).2.1); (case side3 => exact cA_ (Kd.C_below HR4.out HB.out)); (case side4 => exact HC4.out); rintro e w' ⟨rfl, ⟨nd, rfl⟩⟩))
      go_ret
      exact ⟨m_3, m_1⟩
     ·rw [if_neg c13] at H
      cases H
    ·rw [if_neg c12] at H
     cases H
   ·rw [if_neg c11] at H
    cases H
  ·rw [if_neg c10] at H
   cases H
 ·rw [if_neg c9] at H
  cases H
end Go.Proofs.Ytelklgdmhnkenaa.U
namespace Go.Proofs.Ytelklgdmhnkenaa.U
attribute [local go_sem] max2_int min2_int max_two min_two max_three min_three max_four min_four
def pylonlaw28_awake.f (k : Nat)  : Option (Bool) := (pylonlaw28_ex.f).bind fun t745 => ((some (([true, true] : List Bool) : List Bool)).bind fun y748 => ((energy_Range.f k t745 y748).bind fun bt751 => ((energy_LeastCost.f k t745 y748 1).bind fun bt754 => ((energy_LeastCost.f k t745 y748 16).bind fun bt756 => ((energy_LeastCost.f k t745 y748 (-1)).bind fun bt758 => (if bt751.1 = 2 then (if bt751.2.1 = 15 then (if bt751.2.2 = 0 then ((pylonlaw28_gives.f k t745 y748 7 9 (([5, 2] : List Int))).bind fun t763 => (if t763 = true then ((pylonlaw28_gives.f k t745 y748 9 14 (([5, 4] : List Int))).bind fun t767 => (if t767 = true then ((pylonlaw28_gives.f k t745 (([false, true] : List Bool)) 4 9 (([0, 4] : List Int))).bind fun t774 => (if t774 = true then (if bt754.2 = 8 then (if bt756.2 = 8 then (some (bt758.2 == 1)) else (none)) else (none)) else (none))) else (none))) else (none))) else (none)) else (none)) else (none)))))))
set_option maxHeartbeats 8000000 in
set_option maxRecDepth 100000 in
theorem pylonlaw28_awake.calls (k : Nat)  (r : Bool) (w : World) (h : pylonlaw28_awake.f k  = some r) :
  Calls Try.prog 30 #[] w fun e w' => e = .returned (.bool r) ∧ Below w.heap.size w w' := by
 have HB := Aside0.mk (Below.refl w.heap.size w)
 have H : ((pylonlaw28_ex.f).bind fun t745 => ((some (([true, true] : List Bool) : List Bool)).bind fun y748 => ((energy_Range.f k t745 y748).bind fun bt751 => ((energy_LeastCost.f k t745 y748 1).bind fun bt754 => ((energy_LeastCost.f k t745 y748 16).bind fun bt756 => ((energy_LeastCost.f k t745 y748 (-1)).bind fun bt758 => (if bt751.1 = 2 then (if bt751.2.1 = 15 then (if bt751.2.2 = 0 then ((pylonlaw28_gives.f k t745 y748 7 9 (([5, 2] : List Int))).bind fun t763 => (if t763 = true then ((pylonlaw28_gives.f k t745 y748 9 14 (([5, 4] : List Int))).bind fun t767 => (if t767 = true then ((pylonlaw28_gives.f k t745 (([false, true] : List Bool)) 4 9 (([0, 4] : List Int))).bind fun t774 => (if t774 = true then (if bt754.2 = 8 then (if bt756.2 = 8 then (some (bt758.2 == 1)) else (none)) else (none)) else (none))) else (none))) else (none))) else (none)) else (none)) else (none)))))))) = some r := h
 clear h
 replace H := Option.bind_eq_some_iff.mp H
 obtain ⟨t745, A10, H⟩ := H
 replace H : ((some (([true, true] : List Bool) : List Bool)).bind fun y748 => ((energy_Range.f k t745 y748).bind fun bt751 => ((energy_LeastCost.f k t745 y748 1).bind fun bt754 => ((energy_LeastCost.f k t745 y748 16).bind fun bt756 => ((energy_LeastCost.f k t745 y748 (-1)).bind fun bt758 => (if bt751.1 = 2 then (if bt751.2.1 = 15 then (if bt751.2.2 = 0 then ((pylonlaw28_gives.f k t745 y748 7 9 (([5, 2] : List Int))).bind fun t763 => (if t763 = true then ((pylonlaw28_gives.f k t745 y748 9 14 (([5, 4] : List Int))).bind fun t767 => (if t767 = true then ((pylonlaw28_gives.f k t745 (([false, true] : List Bool)) 4 9 (([0, 4] : List Int))).bind fun t774 => (if t774 = true then (if bt754.2 = 8 then (if bt756.2 = 8 then (some (bt758.2 == 1)) else (none)) else (none)) else (none))) else (none))) else (none))) else (none)) else (none)) else (none))))))) = some r := H
 have A1 := Aside0.mk A10
 clear A10
 obtain ⟨y748, hy748⟩ : ∃ y_ : List Bool, y_ = (([true, true] : List Bool)) := ⟨_, rfl⟩
 replace H : ((energy_Range.f k t745 y748).bind fun bt751 => ((energy_LeastCost.f k t745 y748 1).bind fun bt754 => ((energy_LeastCost.f k t745 y748 16).bind fun bt756 => ((energy_LeastCost.f k t745 y748 (-1)).bind fun bt758 => (if bt751.1 = 2 then (if bt751.2.1 = 15 then (if bt751.2.2 = 0 then ((pylonlaw28_gives.f k t745 y748 7 9 (([5, 2] : List Int))).bind fun t763 => (if t763 = true then ((pylonlaw28_gives.f k t745 y748 9 14 (([5, 4] : List Int))).bind fun t767 => (if t767 = true then ((pylonlaw28_gives.f k t745 (([false, true] : List Bool)) 4 9 (([0, 4] : List Int))).bind fun t774 => (if t774 = true then (if bt754.2 = 8 then (if bt756.2 = 8 then (some (bt758.2 == 1)) else (none)) else (none)) else (none))) else (none))) else (none))) else (none)) else (none)) else (none)))))) = some r := by first | (rw [hy748]; with_reducible exact H) | (have H2_ := (Option.bind_some _ _).symm.trans H; rw [hy748]; with_reducible exact H2_) | (have H2_ := (Option.bind_some _ _).symm.trans H; with_reducible exact H2_) | with_reducible exact H | (rw [hy748]; exact H) | exact H
 have Ny748 := Aside0.mk hy748
 clear hy748
 replace H := Option.bind_eq_some_iff.mp H
 obtain ⟨⟨t751, t752, t753⟩, A20, H⟩ := H
 replace H : ((energy_LeastCost.f k t745 y748 1).bind fun bt754 => ((energy_LeastCost.f k t745 y748 16).bind fun bt756 => ((energy_LeastCost.f k t745 y748 (-1)).bind fun bt758 => (if t751 = 2 then (if t752 = 15 then (if t753 = 0 then ((pylonlaw28_gives.f k t745 y748 7 9 (([5, 2] : List Int))).bind fun t763 => (if t763 = true then ((pylonlaw28_gives.f k t745 y748 9 14 (([5, 4] : List Int))).bind fun t767 => (if t767 = true then ((pylonlaw28_gives.f k t745 (([false, true] : List Bool)) 4 9 (([0, 4] : List Int))).bind fun t774 => (if t774 = true then (if bt754.2 = 8 then (if bt756.2 = 8 then (some (bt758.2 == 1)) else (none)) else (none)) else (none))) else (none))) else (none))) else (none)) else (none)) else (none))))) = some r := H
 have A2 := Aside0.mk A20
 clear A20
 replace H := Option.bind_eq_some_iff.mp H
 obtain ⟨⟨t754, t755⟩, A30, H⟩ := H
 replace H : ((energy_LeastCost.f k t745 y748 16).bind fun bt756 => ((energy_LeastCost.f k t745 y748 (-1)).bind fun bt758 => (if t751 = 2 then (if t752 = 15 then (if t753 = 0 then ((pylonlaw28_gives.f k t745 y748 7 9 (([5, 2] : List Int))).bind fun t763 => (if t763 = true then ((pylonlaw28_gives.f k t745 y748 9 14 (([5, 4] : List Int))).bind fun t767 => (if t767 = true then ((pylonlaw28_gives.f k t745 (([false, true] : List Bool)) 4 9 (([0, 4] : List Int))).bind fun t774 => (if t774 = true then (if t755 = 8 then (if bt756.2 = 8 then (some (bt758.2 == 1)) else (none)) else (none)) else (none))) else (none))) else (none))) else (none)) else (none)) else (none)))) = some r := H
 have A3 := Aside0.mk A30
 clear A30
 replace H := Option.bind_eq_some_iff.mp H
 obtain ⟨⟨t756, t757⟩, A40, H⟩ := H
 replace H : ((energy_LeastCost.f k t745 y748 (-1)).bind fun bt758 => (if t751 = 2 then (if t752 = 15 then (if t753 = 0 then ((pylonlaw28_gives.f k t745 y748 7 9 (([5, 2] : List Int))).bind fun t763 => (if t763 = true then ((pylonlaw28_gives.f k t745 y748 9 14 (([5, 4] : List Int))).bind fun t767 => (if t767 = true then ((pylonlaw28_gives.f k t745 (([false, true] : List Bool)) 4 9 (([0, 4] : List Int))).bind fun t774 => (if t774 = true then (if t755 = 8 then (if t757 = 8 then (some (bt758.2 == 1)) else (none)) else (none)) else (none))) else (none))) else (none))) else (none)) else (none)) else (none))) = some r := H
 have A4 := Aside0.mk A40
 clear A40
 replace H := Option.bind_eq_some_iff.mp H
 obtain ⟨⟨t758, t759⟩, A50, H⟩ := H
 replace H : (if t751 = 2 then (if t752 = 15 then (if t753 = 0 then ((pylonlaw28_gives.f k t745 y748 7 9 (([5, 2] : List Int))).bind fun t763 => (if t763 = true then ((pylonlaw28_gives.f k t745 y748 9 14 (([5, 4] : List Int))).bind fun t767 => (if t767 = true then ((pylonlaw28_gives.f k t745 (([false, true] : List Bool)) 4 9 (([0, 4] : List Int))).bind fun t774 => (if t774 = true then (if t755 = 8 then (if t757 = 8 then (some (t759 == 1)) else (none)) else (none)) else (none))) else (none))) else (none))) else (none)) else (none)) else (none)) = some r := H
 have A5 := Aside0.mk A50
 clear A50
 by_cases c6 : t751 = 2
 ·rw [if_pos c6] at H
  have c6b0 : (t751 == 2) = true := beq_iff_eq.mpr c6
  clear c6
  by_cases c7 : t752 = 15
  ·rw [if_pos c7] at H
   have c7b0 : (t752 == 15) = true := beq_iff_eq.mpr c7
   clear c7
   by_cases c8 : t753 = 0
   ·rw [if_pos c8] at H
    have c8b0 : (t753 == 0) = true := beq_iff_eq.mpr c8
    clear c8
    obtain ⟨y760, hy760⟩ : ∃ y_ : List Int, y_ = (([5, 2] : List Int)) := ⟨_, rfl⟩
    replace H : ((pylonlaw28_gives.f k t745 y748 7 9 y760).bind fun t763 => (if t763 = true then ((pylonlaw28_gives.f k t745 y748 9 14 (([5, 4] : List Int))).bind fun t767 => (if t767 = true then ((pylonlaw28_gives.f k t745 (([false, true] : List Bool)) 4 9 (([0, 4] : List Int))).bind fun t774 => (if t774 = true then (if t755 = 8 then (if t757 = 8 then (some (t759 == 1)) else (none)) else (none)) else (none))) else (none))) else (none))) = some r := by first | (rw [hy760]; with_reducible exact H) | (have H2_ := (Option.bind_some _ _).symm.trans H; rw [hy760]; with_reducible exact H2_) | (have H2_ := (Option.bind_some _ _).symm.trans H; with_reducible exact H2_) | with_reducible exact H | (rw [hy760]; exact H) | exact H
    have Ny760 := Aside0.mk hy760
    clear hy760
    replace H := Option.bind_eq_some_iff.mp H
    obtain ⟨t763, A90, H⟩ := H
    replace H : (if t763 = true then ((pylonlaw28_gives.f k t745 y748 9 14 (([5, 4] : List Int))).bind fun t767 => (if t767 = true then ((pylonlaw28_gives.f k t745 (([false, true] : List Bool)) 4 9 (([0, 4] : List Int))).bind fun t774 => (if t774 = true then (if t755 = 8 then (if t757 = 8 then (some (t759 == 1)) else (none)) else (none)) else (none))) else (none))) else (none)) = some r := H
    have A9 := Aside0.mk A90
    clear A90
    by_cases c10 : t763 = true
    ·subst c10
     have H1 : ((pylonlaw28_gives.f k t745 y748 9 14 (([5, 4] : List Int))).bind fun t767 => (if t767 = true then ((pylonlaw28_gives.f k t745 (([false, true] : List Bool)) 4 9 (([0, 4] : List Int))).bind fun t774 => (if t774 = true then (if t755 = 8 then (if t757 = 8 then (some (t759 == 1)) else (none)) else (none)) else (none))) else (none))) = some r := by rw [if_pos rfl] at H; exact H
     clear H
     have H := H1
     clear H1
     obtain ⟨y764, hy764⟩ : ∃ y_ : List Int, y_ = (([5, 4] : List Int)) := ⟨_, rfl⟩
     replace H : ((pylonlaw28_gives.f k t745 y748 9 14 y764).bind fun t767 => (if t767 = true then ((pylonlaw28_gives.f k t745 (([false, true] : List Bool)) 4 9 (([0, 4] : List Int))).bind fun t774 => (if t774 = true then (if t755 = 8 then (if t757 = 8 then (some (t759 == 1)) else (none)) else (none)) else (none))) else (none))) = some r := by first | (rw [hy764]; with_reducible exact H) | (have H2_ := (Option.bind_some _ _).symm.trans H; rw [hy764]; with_reducible exact H2_) | (have H2_ := (Option.bind_some _ _).symm.trans H; with_reducible exact H2_) | with_reducible exact H | (rw [hy764]; exact H) | exact H
     have Ny764 := Aside0.mk hy764
     clear hy764
     replace H := Option.bind_eq_some_iff.mp H
     obtain ⟨t767, A110, H⟩ := H
     replace H : (if t767 = true then ((pylonlaw28_gives.f k t745 (([false, true] : List Bool)) 4 9 (([0, 4] : List Int))).bind fun t774 => (if t774 = true then (if t755 = 8 then (if t757 = 8 then (some (t759 == 1)) else (none)) else (none)) else (none))) else (none)) = some r := H
     have A11 := Aside0.mk A110
     clear A110
     by_cases c12 : t767 = true
     ·subst c12
      have H1 : ((pylonlaw28_gives.f k t745 (([false, true] : List Bool)) 4 9 (([0, 4] : List Int))).bind fun t774 => (if t774 = true then (if t755 = 8 then (if t757 = 8 then (some (t759 == 1)) else (none)) else (none)) else (none))) = some r := by rw [if_pos rfl] at H; exact H
      clear H
      have H := H1
      clear H1
      obtain ⟨y768, hy768⟩ : ∃ y_ : List Bool, y_ = (([false, true] : List Bool)) := ⟨_, rfl⟩
      replace H : ((pylonlaw28_gives.f k t745 y768 4 9 (([0, 4] : List Int))).bind fun t774 => (if t774 = true then (if t755 = 8 then (if t757 = 8 then (some (t759 == 1)) else (none)) else (none)) else (none))) = some r := by first | (rw [hy768]; with_reducible exact H) | (have H2_ := (Option.bind_some _ _).symm.trans H; rw [hy768]; with_reducible exact H2_) | (have H2_ := (Option.bind_some _ _).symm.trans H; with_reducible exact H2_) | with_reducible exact H | (rw [hy768]; exact H) | exact H
      have Ny768 := Aside0.mk hy768
      clear hy768
      obtain ⟨y771, hy771⟩ : ∃ y_ : List Int, y_ = (([0, 4] : List Int)) := ⟨_, rfl⟩
      replace H : ((pylonlaw28_gives.f k t745 y768 4 9 y771).bind fun t774 => (if t774 = true then (if t755 = 8 then (if t757 = 8 then (some (t759 == 1)) else (none)) else (none)) else (none))) = some r := by first | (rw [hy771]; with_reducible exact H) | (have H2_ := (Option.bind_some _ _).symm.trans H; rw [hy771]; with_reducible exact H2_) | (have H2_ := (Option.bind_some _ _).symm.trans H; with_reducible exact H2_) | with_reducible exact H | (rw [hy771]; exact H) | exact H
      have Ny771 := Aside0.mk hy771
      clear hy771
      replace H := Option.bind_eq_some_iff.mp H
      obtain ⟨t774, A130, H⟩ := H
      replace H : (if t774 = true then (if t755 = 8 then (if t757 = 8 then (some (t759 == 1)) else (none)) else (none)) else (none)) = some r := H
      have A13 := Aside0.mk A130
      clear A130
      by_cases c14 : t774 = true
      ·subst c14
       have H1 : (if t755 = 8 then (if t757 = 8 then (some (t759 == 1)) else (none)) else (none)) = some r := by rw [if_pos rfl] at H; exact H
       clear H
       have H := H1
       clear H1
       by_cases c15 : t755 = 8
       ·rw [if_pos c15] at H
        have c15b0 : (t755 == 8) = true := beq_iff_eq.mpr c15
        clear c15
        by_cases c16 : t757 = 8
        ·rw [if_pos c16] at H
         have c16b0 : (t757 == 8) = true := beq_iff_eq.mpr c16
         clear c16
         obtain rfl := Option.some.inj H
         go_enter Try.func30, Try.ntmps30
         go_wp2_with (first | ((with_reducible refine gate_callee (f := 51) rfl ?_); refine goesL_ (some 12) rfl rfl Try.func51 m_19 rfl #[] rfl m_2 ?_; (with_reducible refine (pylonlaw28_ex.calls  t745 _ A1.out).mono ?_); rintro e w17 ⟨v746, rfl, ho0, hb⟩; refine ⟨_, rfl, ?_⟩; have HO747 := Aside0.mk (Kd.V_lower (Kd.V_mono (ok' := fun k_ => True) ho0 (fun k_ hk_ => trivial)) (below_size m_1)); replace HB := Aside0.mk (below_step m_1 hb); clear hb; (try clear ho0)) | ((with_reducible refine gate_dst (N := 13) rfl ?_); (try (refine gate_guard (by rfl) ?_; dsimp only)); refine Kd.R_lit Kd.bool _ 4 ?hg (N := 13) ?hd (xs := ([true, true] : List Bool)) (inner := [.bool true, .bool true]) (ok := fun _ => True) (okp := fun _ => True) ?hr ?hp (fun _ hk => hk) trivial (Below.refl _ _) (Nat.le_refl _) (by simp) ?_; (case hd => rfl); (case hg => rfl); (case hr => exact hr_); (case hp => exact (Reps.one (show Kd.M Kd.bool _ _ _ true [.bool true] from rfl) (Reps.one (show Kd.M Kd.bool _ _ _ true [.bool true] from rfl) (Reps.none _ _)))); intro v749 w18 ho19 hb hg_ hnew_; clear hg_ hnew_; (first | rw [← Ny748.out] at ho19 | (simp only [Int.reduceToNat] at ho19; rw [← Ny748.out] at ho19)); have HO750 := Aside0.mk (Kd.R_lower ho19 (below_size m_1)); replace HO747 := Aside0.mk (Kd.V_elder' (vA_ HO747.out) (Kd.R_base ho19) hb); replace HB := Aside0.mk (below_step m_1 hb); clear hb ho19; obtain ⟨Ao20, co20, eo20⟩ := Kd.V_slice HO747.out; subst eo20; obtain ⟨Ao21, co21, eo21⟩ := Kd.R_slice HO750.out; subst eo21) | ((with_reducible refine gate_callee (f := 52) rfl ?_); refine goesL_ (some 17) rfl rfl Try.func52 m_19 rfl #[.slice Ao20 t745.length co20, .slice Ao21 y748.length co21] rfl m_2 ?_; (with_reducible refine (energy_Range.calls k _ _ t745 _ _ y748 t751 t752 t753 _ ?side1 ?side2 ?side3 ?side4 A2.out).mono ?_); (case side1 => exact cA_ (Kd.V_reads' HO747.out).2.2); (case side2 => exact (Kd.V_reads' HO747.out).2.1); (case side3 => exact cA_ (Kd.R_reads' HO750.out).2.2); (case side4 => exact (Kd.R_reads' HO750.out).2.1); rintro e w22 ⟨rfl, hb⟩; refine ⟨_, rfl, ?_⟩; replace HO747 := vB_ HO747 hb; replace HO750 := rB_ HO750 hb; replace HB := Aside0.mk (below_step m_1 hb); clear hb) | ((with_reducible refine gate_callee (f := 33) rfl ?_); refine goesL_ (some 24) rfl rfl Try.func33 m_19 rfl #[.slice Ao20 t745.length co20, .slice Ao21 y748.length co21, .int .i64 1] rfl m_2 ?_; (with_reducible refine (energy_LeastCost.calls k _ _ t745 _ _ y748 1 t754 t755 _ ?side1 ?side2 ?side3 ?side4 A3.out).mono ?_); (case side1 => exact cA_ (Kd.V_reads' HO747.out).2.2); (case side2 => exact (Kd.V_reads' HO747.out).2.1); (case side3 => exact cA_ (Kd.R_reads' HO750.out).2.2); (case side4 => exact (Kd.R_reads' HO750.out).2.1); rintro e w23 ⟨rfl, hb⟩; refine ⟨_, rfl, ?_⟩; replace HO747 := vB_ HO747 hb; replace HO750 := rB_ HO750 hb; replace HB := Aside0.mk (below_step m_1 hb); clear hb) | ((with_reducible refine gate_callee (f := 33) rfl ?_); refine goesL_ (some 30) rfl rfl Try.func33 m_19 rfl #[.slice Ao20 t745.length co20, .slice Ao21 y748.length co21, .int .i64 16] rfl m_2 ?_; (with_reducible refine (energy_LeastCost.calls k _ _ t745 _ _ y748 16 t756 t757 _ ?side1 ?side2 ?side3 ?side4 A4.out).mono ?_); (case side1 => exact cA_ (Kd.V_reads' HO747.out).2.2); (case side2 => exact (Kd.V_reads' HO747.out).2.1); (case side3 => exact cA_ (Kd.R_reads' HO750.out).2.2); (case side4 => exact (Kd.R_reads' HO750.out).2.1); rintro e w24 ⟨rfl, hb⟩; refine ⟨_, rfl, ?_⟩; replace HO747 := vB_ HO747 hb; replace HO750 := rB_ HO750 hb; replace HB := Aside0.mk (below_step m_1 hb); clear hb) | ((with_reducible refine gate_callee (f := 33) rfl ?_); refine goesL_ (some 36) rfl rfl Try.func33 m_19 rfl #[.slice Ao20 t745.length co20, .slice Ao21 y748.length co21, .int .i64 (-1)] rfl m_2 ?_; (with_reducible refine (energy_LeastCost.calls k _ _ t745 _ _ y748 (-1) t758 t759 _ ?side1 ?side2 ?side3 ?side4 A5.out).mono ?_); (case side1 => exact cA_ (Kd.V_reads' HO747.out).2.2); (case side2 => exact (Kd.V_reads' HO747.out).2.1); (case side3 => exact cA_ (Kd.R_reads' HO750.out).2.2); (case side4 => exact (Kd.R_reads' HO750.out).2.1); rintro e w25 ⟨rfl, hb⟩; refine ⟨_, rfl, ?_⟩; replace HO747 := vB_ HO747 hb; replace HO750 := rB_ HO750 hb; replace HB := Aside0.mk (below_step m_1 hb); clear hb) | ((with_reducible refine gate_dst (N := 52) rfl ?_); (try (refine gate_guard (by rfl) ?_; dsimp only)); refine Kd.R_lit (Kd.int .i64) _ 2 ?hg (N := 52) ?hd (xs := ([5, 2] : List Int)) (inner := [.int .i64 5, .int .i64 2]) (ok := fun _ => True) (okp := fun _ => True) ?hr ?hp (fun _ hk => hk) trivial (Below.refl _ _) (Nat.le_refl _) (by simp) ?_; (case hd => rfl); (case hg => rfl); (case hr => exact hr_); (case hp => exact (Reps.one (show Kd.M (Kd.int .i64) _ _ _ 5 [.int .i64 5] from rfl) (Reps.one (show Kd.M (Kd.int .i64) _ _ _ 2 [.int .i64 2] from rfl) (Reps.none _ _)))); intro v761 w26 ho27 hb hg_ hnew_; clear hg_ hnew_; (first | rw [← Ny760.out] at ho27 | (simp only [Int.reduceToNat] at ho27; rw [← Ny760.out] at ho27)); have HO762 := Aside0.mk (Kd.R_lower ho27 (below_size m_1)); replace HO747 := Aside0.mk (Kd.V_elder' (vA_ HO747.out) (Kd.R_base ho27) hb); replace HO750 := rB_ HO750 hb; replace HB := Aside0.mk (below_step m_1 hb); clear hb ho27; obtain ⟨Ao28, co28, eo28⟩ := Kd.R_slice HO762.out; subst eo28) | (go_at_call 53; (with_reducible refine (pylonlaw28_gives.calls k _ _ t745 _ _ y748 7 9 _ _ y760 true _ ?side1 ?side2 ?side3 ?side4 ?side5 ?side6 A9.out).mono ?_); (case side1 => exact cA_ (Kd.V_reads' HO747.out).2.2); (case side2 => exact (Kd.V_reads' HO747.out).2.1); (case side3 => exact cA_ (Kd.R_reads' HO750.out).2.2); (case side4 => exact (Kd.R_reads' HO750.out).2.1); (case side5 => exact cA_ (Kd.R_reads' HO762.out).2.2); (case side6 => exact (Kd.R_reads' HO762.out).2.1); rintro e w29 ⟨rfl, hb⟩; replace HO747 := vB_ HO747 hb; replace HO750 := rB_ HO750 hb; replace HO762 := rB_ HO762 hb; replace HB := Aside0.mk (below_step m_1 hb); clear hb; (try clear hk)) | ((with_reducible refine gate_dst (N := 58) rfl ?_); (try (refine gate_guard (by rfl) ?_; dsimp only)); refine Kd.R_lit (Kd.int .i64) _ 2 ?hg (N := 58) ?hd (xs := ([5, 4] : List Int)) (inner := [.int .i64 5, .int .i64 4]) (ok := fun _ => True) (okp := fun _ => True) ?hr ?hp (fun _ hk => hk) trivial (Below.refl _ _) (Nat.le_refl _) (by simp) ?_; (case hd => rfl); (case hg => rfl); (case hr => exact hr_); (case hp => exact (Reps.one (show Kd.M (Kd.int .i64) _ _ _ 5 [.int .i64 5] from rfl) (Reps.one (show Kd.M (Kd.int .i64) _ _ _ 4 [.int .i64 4] from rfl) (Reps.none _ _)))); intro v765 w30 ho31 hb hg_ hnew_; clear hg_ hnew_; (first | rw [← Ny764.out] at ho31 | (simp only [Int.reduceToNat] at ho31; rw [← Ny764.out] at ho31)); have HO766 := Aside0.mk (Kd.R_lower (Kd.R_new' ho31 (Kd.R_lt (rA_ HO762.out))) (below_size m_1)); replace HO747 := Aside0.mk (Kd.V_elder' (vA_ HO747.out) (Kd.R_base ho31) hb); replace HO750 := rB_ HO750 hb; replace HO762 := Aside0.mk (Kd.R_elder' (rA_ HO762.out) (Kd.R_base ho31) hb); replace HB := Aside0.mk (below_step m_1 hb); clear hb ho31; obtain ⟨Ao32, co32, eo32⟩ := Kd.R_slice HO766.out; subst eo32) | (go_at_call 53; (with_reducible refine (pylonlaw28_gives.calls k _ _ t745 _ _ y748 9 14 _ _ y764 true _ ?side1 ?side2 ?side3 ?side4 ?side5 ?side6 A11.out).mono ?_); (case side1 => exact cA_ (Kd.V_reads' HO747.out).2.2); (case side2 => exact (Kd.V_reads' HO747.out).2.1); (case side3 => exact cA_ (Kd.R_reads' HO750.out).2.2); (case side4 => exact (Kd.R_reads' HO750.out).2.1); (case side5 => exact cA_ (Kd.R_reads' HO766.out).2.2); (case side6 => exact (Kd.R_reads' HO766.out).2.1); rintro e w33 ⟨rfl, hb⟩; replace HO747 := vB_ HO747 hb; replace HO750 := rB_ HO750 hb; replace HO762 := rB_ HO762 hb; replace HO766 := rB_ HO766 hb; replace HB := Aside0.mk (below_step m_1 hb); clear hb; (try clear hk)) | ((with_reducible refine gate_dst (N := 63) rfl ?_); (try (refine gate_guard (by rfl) ?_; dsimp only)); refine Kd.R_lit Kd.bool _ 4 ?hg (N := 63) ?hd (xs := ([false, true] : List Bool)) (inner := [.bool false, .bool true]) (ok := fun _ => True) (okp := fun _ => True) ?hr ?hp (fun _ hk => hk) trivial (Below.refl _ _) (Nat.le_refl _) (by simp) ?_; (case hd => rfl); (case hg => rfl); (case hr => exact hr_); (case hp => exact (Reps.one (show Kd.M Kd.bool _ _ _ false [.bool false] from rfl) (Reps.one (show Kd.M Kd.bool _ _ _ true [.bool true] from rfl) (Reps.none _ _)))); intro v769 w34 ho35 hb hg_ hnew_; clear hg_ hnew_; (first | rw [← Ny768.out] at ho35 | (simp only [Int.reduceToNat] at ho35; rw [← Ny768.out] at ho35)); have HO770 := Aside0.mk (Kd.R_lower (Kd.R_new' ho35 (Kd.R_lt (rA_ HO750.out))) (below_size m_1)); replace HO747 := Aside0.mk (Kd.V_elder' (vA_ HO747.out) (Kd.R_base ho35) hb); replace HO750 := Aside0.mk (Kd.R_elder' (rA_ HO750.out) (Kd.R_base ho35) hb); replace HO762 := rB_ HO762 hb; replace HO766 := rB_ HO766 hb; replace HB := Aside0.mk (below_step m_1 hb); clear hb ho35) | ((with_reducible refine gate_dst (N := 64) rfl ?_); (try (refine gate_guard (by rfl) ?_; dsimp only)); refine Kd.R_lit (Kd.int .i64) _ 2 ?hg (N := 64) ?hd (xs := ([0, 4] : List Int)) (inner := [.int .i64 0, .int .i64 4]) (ok := fun _ => True) (okp := fun _ => True) ?hr ?hp (fun _ hk => hk) trivial (Below.refl _ _) (Nat.le_refl _) (by simp) ?_; (case hd => rfl); (case hg => rfl); (case hr => exact hr_); (case hp => exact (Reps.one (show Kd.M (Kd.int .i64) _ _ _ 0 [.int .i64 0] from rfl) (Reps.one (show Kd.M (Kd.int .i64) _ _ _ 4 [.int .i64 4] from rfl) (Reps.none _ _)))); intro v772 w36 ho37 hb hg_ hnew_; clear hg_ hnew_; (first | rw [← Ny771.out] at ho37 | (simp only [Int.reduceToNat] at ho37; rw [← Ny771.out] at ho37)); have HO773 := Aside0.mk (Kd.R_lower (Kd.R_new' (Kd.R_new' ho37 (Kd.R_lt (rA_ HO762.out))) (Kd.R_lt (rA_ HO766.out))) (below_size m_1)); replace HO747 := Aside0.mk (Kd.V_elder' (vA_ HO747.out) (Kd.R_base ho37) hb); replace HO750 := rB_ HO750 hb; replace HO762 := Aside0.mk (Kd.R_elder' (rA_ HO762.out) (Kd.R_base ho37) hb); replace HO766 := Aside0.mk (Kd.R_elder' (rA_ HO766.out) (Kd.R_base ho37) hb); replace HO770 := rB_ HO770 hb; replace HB := Aside0.mk (below_step m_1 hb); clear hb ho37; obtain ⟨Ao38, co38, eo38⟩ := Kd.R_slice HO770.out; subst eo38; obtain ⟨Ao39, co39, eo39⟩ := Kd.R_slice HO773.out; subst eo39) | (go_at_call 53; (with_reducible refine (pylonlaw28_gives.calls k _ _ t745 _ _ y768 4 9 _ _ y771 true _ ?side1 ?side2 ?side3 ?side4 ?side5 ?side6 A13.out).mono ?_); (case side1 => exact cA_ (Kd.V_reads' HO747.out).2.2); (case side2 => exact (Kd.V_reads' HO747.out).2.1); (case side3 => exact cA_ (Kd.R_reads' HO770.out).2.2); (case side4 => exact (Kd.R_reads' HO770.out).2.1); (case side5 => exact cA_ (Kd.R_reads' HO773.out).2.2); (case side6 => exact (Kd.R_reads' HO773.out).2.1); rintro e w40 ⟨rfl, hb⟩; replace HB := Aside0.mk (below_step m_1 hb); clear hb; (try clear hk)))
         go_ret
         exact ⟨m_3, m_1⟩
        ·rw [if_neg c16] at H
         cases H
       ·rw [if_neg c15] at H
        cases H
      ·rw [if_neg c14] at H
       cases H
     ·rw [if_neg c12] at H
      cases H
    ·rw [if_neg c10] at H
     cases H
   ·rw [if_neg c8] at H
    cases H
  ·rw [if_neg c7] at H
   cases H
 ·rw [if_neg c6] at H
  cases H
theorem ck1 : ckF exU [true, true] = 0 := by simp [ckF, chk, ckU, checkF, exU, wrongF, wrongFrom, cutB, afterB, inB, maxF, qsum, wrap64]
theorem ck2 : ckF exU [false, true] = 0 := by simp [ckF, chk, ckU, checkF, exU, wrongF, wrongFrom, cutB, afterB, inB, maxF, qsum, wrap64]
theorem pc1 : piecesOf 0 exU [true, true] = [(0, 3, 1), (0, 4, 3), (1, 3, 2), (1, 3, 3)] := by decide
theorem pc2 : piecesOf 0 exU [false, true] = [(1, 3, 2), (1, 3, 3)] := by decide
theorem ex_good : ∀ u ∈ exU, goodU u = true := by decide
theorem sr1 : srtP (piecesOf 0 exU [true, true]) = [(0, 3, 1), (1, 3, 2), (1, 3, 3), (0, 4, 3)] := by
  refine (srt_unique (pieces_pre 0 exU [true, true] ex_good) (rs := [(0, 3, 1), (1, 3, 2), (1, 3, 3), (0, 4, 3)]) ?_ (by decide)).symm
  rw [pc1]
  decide
theorem sr2 : srtP (piecesOf 0 exU [false, true]) = [(1, 3, 2), (1, 3, 3)] := by
  refine (srt_unique (pieces_pre 0 exU [false, true] ex_good) (rs := [(1, 3, 2), (1, 3, 3)]) ?_ (by decide)).symm
  rw [pc2]
theorem al7 : allocR exU [true, true] 7 = ([5, 2], 0) := by
  unfold allocR allocRow
  rw [if_pos ck1, sr1]
  decide
theorem al9 : allocR exU [true, true] 9 = ([5, 4], 0) := by
  unfold allocR allocRow
  rw [if_pos ck1, sr1]
  decide
theorem al4 : allocR exU [false, true] 4 = ([0, 4], 0) := by
  unfold allocR allocRow
  rw [if_pos ck2, sr2]
  decide
theorem al1 : allocR exU [true, true] 1 = ([], 8) := by
  unfold allocR
  rw [if_pos ck1]
  decide
theorem al16 : allocR exU [true, true] 16 = ([], 8) := by
  unfold allocR
  rw [if_pos ck1]
  decide
theorem alm : allocR exU [true, true] (-1) = ([], 1) := by
  unfold allocR
  rw [if_pos ck1]
  decide
theorem le_of (l1 : List Bool) (d : Int) (r : List Int) (c : Int) (h : allocR exU l1 d = (r, 0)) (hc : costR exU l1 r = (c, 0)) : leastR exU l1 d = (c, 0) := by
  unfold leastR
  rw [h, if_pos rfl, hc]
theorem same2 (a b : Int) : Evs (fun k => pylonref28_Same.f k [a, b] [a, b]) true := by
  refine ⟨3, fun k hk => ?_⟩
  obtain ⟨m, rfl⟩ : ∃ m, k = m + 3 := ⟨k - 3, by omega⟩
  simp [pylonref28_Same.f, pylonref28_Same.l0, YtelklgdmhnkenaaW.PrintWords.rd, wrap64]
theorem gives_f (l1 : List Bool) (d c a b : Int) (h : allocR exU l1 d = ([a, b], 0)) (hc : costR exU l1 [a, b] = (c, 0)) : Evs (fun k => pylonlaw28_gives.f k exU l1 d c [a, b]) true := by
  unfold pylonlaw28_gives.f
  have h1 := alloc_f exU l1 d
  have h2 := least_f exU l1 d
  have h3 := Cost_f exU l1 [a, b]
  rw [h] at h1
  rw [le_of l1 d _ c h hc] at h2
  rw [hc] at h3
  refine h1.bind (h2.bind (h3.bind ?_))
  simp only [if_true]
  exact (same2 a b).bind (Evs.const rfl)
theorem awake_f : Evs (fun k => pylonlaw28_awake.f k) true := by
  unfold pylonlaw28_awake.f pylonlaw28_ex.f
  simp only [Option.bind_some]
  have hr := Range_f exU [true, true]
  have e : rangeR exU [true, true] = (2, 15, 0) := by unfold rangeR; rw [if_pos ck1]; decide
  rw [e] at hr
  have l1 := least_f exU [true, true] 1
  have l2 := least_f exU [true, true] 16
  have l3 := least_f exU [true, true] (-1)
  have e1 : leastR exU [true, true] 1 = (0, 8) := by unfold leastR; rw [al1]; rfl
  have e2 : leastR exU [true, true] 16 = (0, 8) := by unfold leastR; rw [al16]; rfl
  have e3 : leastR exU [true, true] (-1) = (0, 1) := by unfold leastR; rw [alm]; rfl
  rw [e1] at l1
  rw [e2] at l2
  rw [e3] at l3
  refine hr.bind (l1.bind (l2.bind (l3.bind ?_)))
  simp only [if_true]
  refine (gives_f [true, true] 7 9 5 2 al7 (by unfold costR; rw [if_pos ck1]; decide)).bind ?_
  simp only [if_true]
  refine (gives_f [true, true] 9 14 5 4 al9 (by unfold costR; rw [if_pos ck1]; decide)).bind ?_
  simp only [if_true]
  refine (gives_f [false, true] 4 9 0 4 al4 (by unfold costR; rw [if_pos ck2]; decide)).bind ?_
  simp only [if_true]
  exact Evs.const rfl
end Go.Proofs.Ytelklgdmhnkenaa.U
namespace Go.Proofs.Ytelklgdmhnkenaa.U
attribute [local go_sem] max2_int min2_int max_two min_two max_three min_three max_four min_four
mutual
def pylonlaw28_Long.j0 : Nat → List (S24) → Bool → Option (Bool)
 | 0, _, _ => none
 | k + 1, x0, x13 => if x13 = true then (some true) else (pylonlaw28_Long.l0 k x0 0)
def pylonlaw28_Long.l0 : Nat → List (S24) → Int → Option (Bool)
 | 0, _, _ => none
 | k + 1, x0, x5 => if x5 < (x0.length : Int) then (if 0 ≤ x5 then (if (((rd_T24 x0 x5).f2).length : Int) > 20 then (some true) else (pylonlaw28_Long.l0 k x0 (wrap64 (x5 + 1)))) else (none)) else (some false)
end
def pylonlaw28_Long.f (k : Nat) (l0 : List (S24)) (l1 : List Bool) : Option (Bool) := if (l0.length : Int) > 30 then (pylonlaw28_Long.j0 k l0 true) else (pylonlaw28_Long.j0 k l0 (decide ((l1.length : Int) > 30)))
set_option maxHeartbeats 8000000 in
set_option maxRecDepth 100000 in
theorem pylonlaw28_Long.calls (k : Nat) (A0 : Option Addr) (c0 : Nat) (l0 : List (S24)) (A1 : Option Addr) (c1 : Nat) (l1 : List Bool) (r : Bool) (w : World) (hr0 : Kd.C k24 w A0 l0.length l0) (hc0 : l0.length ≤ c0) (hr1 : Kd.C Kd.bool w A1 l1.length l1) (hc1 : l1.length ≤ c1) (h : pylonlaw28_Long.f k l0 l1 = some r) :
  Calls Try.prog 29 #[.slice A0 l0.length c0, .slice A1 l1.length c1] w fun e w' => e = .returned (.bool r) ∧ Drawn0 w w' := by
 have HR0 := Aside0.mk hr0
 clear hr0 hc0
 clear hr1 hc1
 have H : (if (l0.length : Int) > 30 then (pylonlaw28_Long.j0 k l0 true) else (pylonlaw28_Long.j0 k l0 (decide ((l1.length : Int) > 30)))) = some r := h
 clear h
 have HC3 := Aside0.mk H
 clear H
 go_enter Try.func29, Try.ntmps29
 go_upto_region 1 with (fail)
 go_cut [13] (fun v13 wc => ∃ (kq : Nat) (x13_2 : Bool), v13 = .bool x13_2 ∧ Aside0 (pylonlaw28_Long.j0 kq l0 x13_2 = some r) ∧ Aside0 (kq ≤ k) ∧ Drawn0 w wc)
 case first =>
  have H := HC3.out
  clear HC3
  by_cases c4 : (l0.length : Int) > 30
  ·rw [if_pos c4] at H
   have c4b0 : decide (30 < (l0.length : Int)) = true := decide_eq_true c4
   have c4b1 : decide (30 < l0.length) = true := decide_eq_true (by omega)
   clear c4
   (first | rw [c4b0] | (simp only [i64_w, i32_w]; rw [c4b0]) | skip)
   have H' := Aside0.mk H
   clear H
   go_wp2
   go_meet
   case rel => exact ⟨_, (true), m_14, H', ⟨m_111⟩, m_28⟩
  ·rw [if_neg c4] at H
   have c4b0 : decide (30 < (l0.length : Int)) = false := decide_eq_false c4
   have c4b1 : decide (30 < l0.length) = false := decide_eq_false (by omega)
   clear c4
   (first | rw [c4b0] | (simp only [i64_w, i32_w]; rw [c4b0]) | skip)
   have H' := Aside0.mk H
   clear H
   go_wp2
   go_meet
   case rel => exact ⟨_, (decide ((l1.length : Int) > 30)), m_14, H', ⟨m_111⟩, m_28⟩
 case rest =>
  clear HC3
  (try clear c1); (try clear c2); (try clear p2); (try clear c4); (try clear c4b0); (try clear c4b1)
  obtain ⟨kq, x13_2, rfl, HA, HJ2, ⟨mc2, rfl⟩⟩ := hcut
  cases kq with
  | zero => exact absurd HA.out (by simp [pylonlaw28_Long.j0])
  | succ kj2 =>
   have H := HA.out
   clear HA
   simp only [pylonlaw28_Long.j0] at H
   by_cases c5 : x13_2 = true
   ·subst c5
    have H1 : (some true) = some r := by rw [if_pos rfl] at H; exact H
    clear H
    have H := H1
    clear H1
    obtain rfl := Option.some.inj H
    go_wp2
    go_ret
    exact ⟨m_14, m_28⟩
   ·replace c5 := Bool.eq_false_iff.mpr c5
    subst c5
    have H1 : (pylonlaw28_Long.l0 kj2 l0 0) = some r := by rw [if_neg (show ¬ (false = true) by decide)] at H; exact H
    clear H
    have H := H1
    clear H1
    have H' := Aside0.mk H
    clear H
    go_wp2
    go_loopg [5] kj2 (fun kq v5 w' => ∃ (x5_2 : Int), v5 = .int .i64 x5_2 ∧ Aside0 (pylonlaw28_Long.l0 kq l0 x5_2 = some r) ∧ Aside0 (kq ≤ kj2) ∧ Drawn0 w w')
    case atStart => exact ⟨(0), m_14, H', ⟨Nat.le_refl _⟩, m_28⟩
    case round =>
     clear H'
     (try clear c1); (try clear c2); (try clear p2); (try clear c4); (try clear c4b0); (try clear c4b1); (try clear c5); (try clear p2)
     obtain ⟨x5_2, rfl, HA, HK2, ⟨m2, rfl⟩⟩ := hrel
     cases gk with
     | zero => exact absurd HA.out (by simp [pylonlaw28_Long.l0])
     | succ k2 =>
      have H := HA.out
      clear HA
      simp only [pylonlaw28_Long.l0] at H
      by_cases c6 : x5_2 < (l0.length : Int)
      ·rw [if_pos c6] at H
       have c6b0 : decide (x5_2 < (l0.length : Int)) = true := decide_eq_true c6
       clear c6
       by_cases c7 : 0 ≤ x5_2
       ·rw [if_pos c7] at H
        have c7b0 : decide (0 ≤ x5_2) = true := decide_eq_true c7
        clear c7
        by_cases c8 : (((rd_T24 l0 x5_2).f2).length : Int) > 20
        ·rw [if_pos c8] at H
         have c8b0 : decide (20 < (((rd_T24 l0 x5_2).f2).length : Int)) = true := decide_eq_true c8
         clear c8
         obtain rfl := Option.some.inj H
         have p341 : 0 ≤ (x5_2 : Int) := of_decide_eq_true m_10
         have q341 : x5_2 < (l0.length : Int) := of_decide_eq_true m_10
         obtain ⟨ad341, A341_2, c341_2, e341, hx341_0, hx341_1, hx341_2, hx341_3, hx341_4, hx341_5, hx341_6, hx341_7, hx341_8, hl341_2, hi341_2⟩ := at_T24 HR0.out x5_2 p341 q341
         cases e341
         clear hi341_2 hl341_2
         replace p341 := eq_true p341
         replace q341 := eq_true q341
         go_wp2
         go_ret
         exact ⟨m_14, m_28⟩
        ·rw [if_neg c8] at H
         have c8b0 : decide (20 < (((rd_T24 l0 x5_2).f2).length : Int)) = false := decide_eq_false c8
         clear c8
         have H' := Aside0.mk H
         clear H
         have p341 : 0 ≤ (x5_2 : Int) := of_decide_eq_true m_10
         have q341 : x5_2 < (l0.length : Int) := of_decide_eq_true m_10
         obtain ⟨ad341, A341_2, c341_2, e341, hx341_0, hx341_1, hx341_2, hx341_3, hx341_4, hx341_5, hx341_6, hx341_7, hx341_8, hl341_2, hi341_2⟩ := at_T24 HR0.out x5_2 p341 q341
         cases e341
         clear hi341_2 hl341_2
         replace p341 := eq_true p341
         replace q341 := eq_true q341
         go_wp2
         go_roundg k2
         case measure => have := HJ2.out; have := HK2.out; omega
         case rel => exact ⟨(wrap64 (x5_2 + 1)), m_14, H', ⟨(by have := HJ2.out; have := HK2.out; omega)⟩, m_28⟩
       ·rw [if_neg c7] at H
        exact absurd H (by simp)
      ·rw [if_neg c6] at H
       have c6b0 : decide (x5_2 < (l0.length : Int)) = false := decide_eq_false c6
       clear c6
       obtain rfl := Option.some.inj H
       go_wp2
       go_ret
       exact ⟨m_14, m_28⟩
end Go.Proofs.Ytelklgdmhnkenaa.U
namespace Go.Proofs.Ytelklgdmhnkenaa.U
attribute [local go_sem] max2_int min2_int max_two min_two max_three min_three max_four min_four
theorem KR_0 : ∀ (i : Nat) (us : List S24) (rs : List Int), KR 1 (fun _ => 0) i us rs = sumP us rs
  | _, [], _ => by simp [KR, sumP]
  | _, _ :: _, [] => by simp [KR, sumP]
  | i, u :: us, r :: rs => by rw [KR, sumP, KR_0 (i + 1) us rs]; simp [KU]
theorem wok0 : Wok 1 (fun _ => 0) := ⟨by omega, fun _ _ _ _ _ => Int.le_refl _, fun _ _ _ _ _ _ => by omega⟩
def anyLong : List S24 → Bool
  | [] => false
  | u :: l => decide (20 < u.f2.length) || anyLong l
def longB (l0 : List S24) (l1 : List Bool) : Bool := decide (30 < l0.length) || decide (30 < l1.length) || anyLong l0
theorem long_loop (l0 : List S24) (hl : l0.length ≤ 30) (d : Nat) : ∀ i : Nat, l0.length - i = d → i ≤ l0.length → Evs (fun k => pylonlaw28_Long.l0 k l0 (i : Int)) (anyLong (l0.drop i)) := by
  induction d with
  | zero =>
    intro i hd hi
    obtain rfl : i = l0.length := by omega
    refine Evs.succ (Evs.all fun k => ?_)
    simp only [pylonlaw28_Long.l0]
    rw [if_neg (by omega)]
    simp [anyLong]
  | succ d ih =>
    intro i hd hi
    have hlt : i < l0.length := by omega
    have e1 := rd24 l0 i hlt
    have hd2 : l0.drop i = l0[i] :: l0.drop (i + 1) := List.drop_eq_getElem_cons hlt
    generalize l0[i] = u at e1 hd2
    have h := ih (i + 1) (by omega) (by omega)
    rw [hd2, anyLong]
    refine Evs.succ ?_
    simp only [pylonlaw28_Long.l0, if_pos (show (i : Int) < (l0.length : Int) by omega), if_pos (show (0 : Int) ≤ (i : Int) by omega), e1]
    by_cases c : 20 < u.f2.length
    · simp only [if_pos (show ((u.f2.length : Nat) : Int) > 20 by omega)]
      rw [decide_eq_true c]
      exact Evs.const rfl
    · simp only [if_neg (show ¬ ((u.f2.length : Nat) : Int) > 20 by omega)]
      rw [decide_eq_false c, Bool.false_or, wrap_id (x := (i : Int) + 1) (by omega) (by omega)]
      exact h
theorem Long_f (l0 : List S24) (l1 : List Bool) : Evs (fun k => pylonlaw28_Long.f k l0 l1) (longB l0 l1) := by
  unfold pylonlaw28_Long.f longB
  by_cases c : 30 < l0.length
  · simp only [if_pos (show (l0.length : Int) > 30 by omega)]
    rw [decide_eq_true c, Bool.true_or, Bool.true_or]
    refine Evs.succ (Evs.all fun k => ?_)
    simp only [pylonlaw28_Long.j0, if_true]
  · simp only [if_neg (show ¬ (l0.length : Int) > 30 by omega)]
    rw [decide_eq_false c, Bool.false_or]
    have e : decide ((l1.length : Int) > 30) = decide (30 < l1.length) := by rw [decide_eq_decide]; omega
    rw [e]
    refine Evs.succ ?_
    simp only [pylonlaw28_Long.j0]
    by_cases c2 : 30 < l1.length
    · rw [decide_eq_true c2, Bool.true_or]
      simp only [if_true]
      exact Evs.const rfl
    · rw [decide_eq_false c2, Bool.false_or]
      simp only [if_neg (show ¬ (false = true) by decide)]
      have := long_loop l0 (by omega) l0.length 0 (by omega) (by omega)
      rw [List.drop_zero] at this
      exact this
def wI (n : Nat) (a : Int) : Int := if a ≤ (n : Int) then 1 else 0
theorem wokI (n : Nat) : Wok 1 (wI n) := by
  refine ⟨by omega, fun a b h0 h1 h2 => ?_, fun a b _ _ _ _ => ?_⟩
  · unfold wI; split <;> split <;> omega
  · unfold wI; split <;> split <;> omega
theorem KR_w (n : Nat) : ∀ (i : Nat) (us : List S24) (rs : List Int), rs.length = us.length → KR 1 (wI n) i us rs = sumP us rs + sumL (rs.take (n + 1 - i))
  | _, [], [], _ => by simp [KR, sumP, sumL]
  | _, [], _ :: _, h => by simp at h
  | _, _ :: _, [], h => by simp at h
  | i, u :: us, r :: rs, h => by
    have ih := KR_w n (i + 1) us rs (by simpa using h)
    rw [KR, sumP, ih, KU]
    by_cases hi : i ≤ n
    · have e : wI n (i : Int) = 1 := by unfold wI; rw [if_pos (by omega)]
      rw [e, show n + 1 - i = (n + 1 - (i + 1)) + 1 by omega, List.take_succ_cons, sumL]
      omega
    · have e : wI n (i : Int) = 0 := by unfold wI; rw [if_neg (by omega)]
      rw [e, show n + 1 - i = 0 by omega, show n + 1 - (i + 1) = 0 by omega, List.take_zero, List.take_zero, sumL]
      omega
theorem sumL_append : ∀ (a b : List Int), sumL (a ++ b) = sumL a + sumL b
  | [], b => by simp [sumL]
  | x :: a, b => by rw [List.cons_append, sumL, sumL, sumL_append a b]; omega
theorem sumL_take {l : List Int} {i : Nat} (h : i < l.length) : sumL (l.take (i + 1)) = sumL (l.take i) + l[i] := by
  rw [List.take_succ_eq_append_getElem h, sumL_append]
  simp [sumL]
structure Best (l0 : List S24) (l1 : List Bool) (d : Int) (l : List Int) : Prop where
  len : l.length = l0.length
  ok : allR l0 l1 l = true
  sum : sumL l = d
  le : ∀ r : List Int, r.length = l0.length → allR l0 l1 r = true → sumL r = d → sumP l0 l ≤ sumP l0 r
  lex : ∀ r : List Int, r.length = l0.length → allR l0 l1 r = true → sumL r = d → sumP l0 l = sumP l0 r → ∀ (i : Nat) (h : i < l.length) (h' : i < r.length), l.take i = r.take i → l[i] ≤ r[i]
theorem alloc_best {l0 : List S24} {l1 : List Bool} {d : Int} (hc : ckF l0 l1 = 0) (h0 : leastF l0 l1 ≤ d) (h1 : d ≤ mostF l0 l1) : Best l0 l1 d (allocRow l0 l1 (d - leastF l0 l1)) := by
  obtain ⟨a1, a2, a3, a4⟩ := alloc_opt hc h0 h1
  refine ⟨a1, a2, a3, fun r b1 b2 b3 => ?_, fun r b1 b2 b3 b4 i h h' ht => ?_⟩
  · have := a4 1 (fun _ => 0) wok0 r b1 b2 b3
    rwa [KR_0, KR_0] at this
  · have := a4 1 (wI i) (wokI i) r b1 b2 b3
    rw [KR_w i 0 l0 _ a1, KR_w i 0 l0 _ b1, Nat.sub_zero, sumL_take h, sumL_take h', ht] at this
    omega
theorem row_bnd : ∀ (us : List S24) (bs : List Bool) (r : List Int), (∀ u ∈ us, OkU u) → bs.length = us.length → r.length = us.length → allR us bs r = true → leastF us bs ≤ sumL r ∧ sumL r ≤ mostF us bs
  | [], _, [], _, _, _, _ => by simp [leastF, mostF, sumL]
  | [], _, _ :: _, _, _, h, _ => by simp at h
  | _ :: _, [], _, _, h, _, _ => by simp at h
  | _ :: _, _ :: _, [], _, _, h, _ => by simp at h
  | u :: us, b :: bs, q :: r, ho, h1, h2, ha => by
    have hb := okU_bnd (ho u List.mem_cons_self)
    rw [allR, Bool.and_eq_true] at ha
    have ih := row_bnd us bs r (fun z hz => ho z (List.mem_cons_of_mem _ hz)) (by simpa using h1) (by simpa using h2) ha.2
    have e := ha.1
    rw [leastF, mostF, sumL]
    cases b with
    | false => simp [inR] at e ⊢; omega
    | true => simp [inR] at e ⊢; omega
theorem row_mem : ∀ (us : List S24) (bs : List Bool) (r : List Int), (∀ u ∈ us, OkU u) → bs.length = us.length → r.length = us.length → allR us bs r = true → ∀ x ∈ r, 0 ≤ x ∧ x ≤ 3000000
  | _, _, [], _, _, _, _, x, hx => by cases hx
  | [], _, _ :: _, _, _, h, _, _, _ => by simp at h
  | _ :: _, [], _, _, h, _, _, _, _ => by simp at h
  | u :: us, b :: bs, q :: r, ho, h1, h2, ha, x, hx => by
    have hu := ho u List.mem_cons_self
    have hb := okU_bnd hu
    have hm := hu.min0
    rw [allR, Bool.and_eq_true] at ha
    rcases List.mem_cons.1 hx with rfl | hx
    · have e := ha.1
      cases b with
      | false => simp [inR] at e; omega
      | true => simp [inR] at e; omega
    · exact row_mem us bs r (fun z hz => ho z (List.mem_cons_of_mem _ hz)) (by simpa using h1) (by simpa using h2) ha.2 x hx
theorem sumL_bnd : ∀ (l : List Int), (∀ x ∈ l, 0 ≤ x ∧ x ≤ 3000000) → 0 ≤ sumL l ∧ sumL l ≤ 3000000 * (l.length : Int)
  | [], _ => by simp [sumL]
  | x :: l, h => by
    have h0 := h x List.mem_cons_self
    have ih := sumL_bnd l (fun y hy => h y (List.mem_cons_of_mem _ hy))
    rw [sumL, List.length_cons]
    omega
theorem cost_err {l0 : List S24} {l1 : List Bool} {row : List Int} (h : (costR l0 l1 row).2 ≠ 0) : (costR l0 l1 row).1 = 0 := by
  unfold costR at h ⊢
  split
  · rename_i hc
    rw [if_pos hc] at h
    split
    · rename_i h2
      rw [if_pos h2] at h
      split
      · rename_i h3
        rw [if_pos h3] at h
        exact absurd rfl h
      · rfl
    · rfl
  · rfl
theorem cost_ok {l0 : List S24} {l1 : List Bool} {row : List Int} (h : (costR l0 l1 row).2 = 0) : ckF l0 l1 = 0 ∧ row.length = l0.length ∧ allR l0 l1 row = true ∧ costR l0 l1 row = (sumP l0 row, 0) := by
  unfold costR at h ⊢
  split
  · rename_i hc
    rw [if_pos hc] at h
    split
    · rename_i h2
      rw [if_pos h2] at h
      split
      · rename_i h3
        exact ⟨hc, h2, h3, rfl⟩
      · rename_i h3
        rw [if_neg h3] at h
        exact absurd h (by decide)
    · rename_i h2
      rw [if_neg h2] at h
      exact absurd h (by decide)
  · rename_i hc
    rw [if_neg hc] at h
    exact absurd h hc
theorem cost_is {l0 : List S24} {l1 : List Bool} {row : List Int} (h0 : ckF l0 l1 = 0) (h1 : row.length = l0.length) (h2 : allR l0 l1 row = true) : costR l0 l1 row = (sumP l0 row, 0) := by
  unfold costR
  rw [if_pos h0, if_pos h1, if_pos h2]
theorem allocR_ok {l0 : List S24} {l1 : List Bool} {d : Int} (h : (allocR l0 l1 d).2 = 0) : ckF l0 l1 = 0 ∧ 0 ≤ d ∧ leastF l0 l1 ≤ d ∧ d ≤ mostF l0 l1 ∧ ∃ l, allocR l0 l1 d = (l, 0) ∧ Best l0 l1 d l ∧ leastR l0 l1 d = (sumP l0 l, 0) := by
  have e : leastR l0 l1 d = costR l0 l1 (allocR l0 l1 d).1 := by unfold leastR; rw [if_pos h]
  rw [e]
  clear e
  unfold allocR at h ⊢
  split
  · rename_i hc
    rw [if_pos hc] at h
    split
    · rename_i c1
      rw [if_pos c1] at h
      exact absurd h (by decide)
    · rename_i c1
      rw [if_neg c1] at h
      split
      · rename_i c2
        rw [if_pos c2] at h
        exact absurd h (by decide)
      · rename_i c2
        rw [if_neg c2] at h
        split
        · rename_i c3
          rw [if_pos c3] at h
          exact absurd h (by decide)
        · rename_i c3
          have hb := alloc_best hc (show leastF l0 l1 ≤ d by omega) (show d ≤ mostF l0 l1 by omega)
          exact ⟨hc, by omega, by omega, by omega, _, rfl, hb, cost_is hc hb.len hb.ok⟩
  · rename_i hc
    rw [if_neg hc] at h
    exact absurd h hc
theorem alloc_is {l0 : List S24} {l1 : List Bool} {d : Int} (hc : ckF l0 l1 = 0) (h0 : 0 ≤ d) (h1 : leastF l0 l1 ≤ d) (h2 : d ≤ mostF l0 l1) : (allocR l0 l1 d).2 = 0 := by
  unfold allocR
  rw [if_pos hc, if_neg (by omega), if_neg (by omega), if_neg (by omega)]
theorem alloc_row {l0 : List S24} {l1 : List Bool} {row : List Int} (hc : ckF l0 l1 = 0) (h1 : row.length = l0.length) (h2 : allR l0 l1 row = true) : (allocR l0 l1 (sumL row)).2 = 0 := by
  obtain ⟨h5, hl1, ho⟩ := ck_ok hc
  have hb := row_bnd l0 l1 row ho hl1 h1 h2
  have := lm_bnd l0 l1 ho
  exact alloc_is hc (by omega) hb.1 hb.2
end Go.Proofs.Ytelklgdmhnkenaa.U
namespace Go.Proofs.Ytelklgdmhnkenaa.U
attribute [local go_sem] max2_int min2_int max_two min_two max_three min_three max_four min_four
mutual
def pylonlaw28_EnergyOptimality.j0 : Nat → List (S24) → List Bool → List Int → Bool → Option (Bool)
 | 0, _, _, _, _ => none
 | k + 1, x0, x1, x2, x29 => if x29 = true then ((pylonlaw28_awake.f k).bind fun t777 => (some t777)) else ((energy_Cost.f k x0 x1 x2).bind fun bt778 => (if bt778.2 = 0 then (pylonlaw28_EnergyOptimality.l0 k x0 x1 x2 bt778.1 0 0) else (some (bt778.1 == 0))))
def pylonlaw28_EnergyOptimality.l0 : Nat → List (S24) → List Bool → List Int → Int → Int → Int → Option (Bool)
 | 0, _, _, _, _, _, _ => none
 | k + 1, x0, x1, x2, x7, x9, x10 => if x10 < (x2.length : Int) then (if 0 ≤ x10 then (pylonlaw28_EnergyOptimality.l0 k x0 x1 x2 x7 (wrap64 (x9 + (rd x2 x10))) (wrap64 (x10 + 1))) else (none)) else ((energy_Allocate.f k x0 x1 x9).bind fun bt781 => ((energy_LeastCost.f k x0 x1 x9).bind fun bt785 => ((energy_Cost.f k x0 x1 bt781.1).bind fun bt787 => (if bt781.2 = 0 then (if bt785.2 = 0 then (if bt787.2 = 0 then (if bt787.1 = bt785.1 then (pylonlaw28_EnergyOptimality.j2 k x2 x7 bt781.1 bt785.1 (decide (bt785.1 > x7))) else (pylonlaw28_EnergyOptimality.j2 k x2 x7 bt781.1 bt785.1 true)) else (pylonlaw28_EnergyOptimality.j2 k x2 x7 bt781.1 bt785.1 true)) else (pylonlaw28_EnergyOptimality.j2 k x2 x7 bt781.1 bt785.1 true)) else (pylonlaw28_EnergyOptimality.j2 k x2 x7 bt781.1 bt785.1 true)))))
def pylonlaw28_EnergyOptimality.j2 : Nat → List Int → Int → List Int → Int → Bool → Option (Bool)
 | 0, _, _, _, _, _ => none
 | k + 1, x2, x7, x11, x13, x94 => if x94 = true then (some false) else (if x13 < x7 then (some true) else (pylonlaw28_EnergyOptimality.l1 k x2 x11 0))
def pylonlaw28_EnergyOptimality.l1 : Nat → List Int → List Int → Int → Option (Bool)
 | 0, _, _, _ => none
 | k + 1, x2, x11, x17 => if x17 < (x2.length : Int) then (if 0 ≤ x17 then (if x17 < (x11.length : Int) then (if (rd x11 x17) = (rd x2 x17) then (pylonlaw28_EnergyOptimality.l1 k x2 x11 (wrap64 (x17 + 1))) else (some (decide ((rd x11 x17) < (rd x2 x17))))) else (none)) else (none)) else (some true)
end
def pylonlaw28_EnergyOptimality.f (k : Nat) (l0 : List (S24)) (l1 : List Bool) (l2 : List Int) : Option (Bool) := (pylonlaw28_Long.f k l0 l1).bind fun t775 => (if t775 = true then (pylonlaw28_EnergyOptimality.j0 k l0 l1 l2 true) else (if (l2.length : Int) > 30 then (pylonlaw28_EnergyOptimality.j0 k l0 l1 l2 true) else ((pylonlaw28_awake.f k).bind fun t776 => (pylonlaw28_EnergyOptimality.j0 k l0 l1 l2 (!t776)))))
set_option maxHeartbeats 8000000 in
set_option maxRecDepth 100000 in
theorem pylonlaw28_EnergyOptimality.calls (k : Nat) (A0 : Option Addr) (c0 : Nat) (l0 : List (S24)) (A1 : Option Addr) (c1 : Nat) (l1 : List Bool) (A2 : Option Addr) (c2 : Nat) (l2 : List Int) (r : Bool) (w : World) (hr0 : Kd.C k24 w A0 l0.length l0) (hc0 : l0.length ≤ c0) (hr1 : Kd.C Kd.bool w A1 l1.length l1) (hc1 : l1.length ≤ c1) (hr2 : Kd.C (Kd.int .i64) w A2 l2.length l2) (hc2 : l2.length ≤ c2) (h : pylonlaw28_EnergyOptimality.f k l0 l1 l2 = some r) :
  Calls Try.prog 10 #[.slice A0 l0.length c0, .slice A1 l1.length c1, .slice A2 l2.length c2] w fun e w' => e = .returned (.bool r) ∧ Below w.heap.size w w' := by
 have HR0 := Aside0.mk hr0
 have HC0 := Aside0.mk hc0
 clear hr0 hc0
 have HR1 := Aside0.mk hr1
 have HC1 := Aside0.mk hc1
 clear hr1 hc1
 have HR2 := Aside0.mk hr2
 have HC2 := Aside0.mk hc2
 clear hr2 hc2
 have HB := Aside0.mk (Below.refl w.heap.size w)
 have H : ((pylonlaw28_Long.f k l0 l1).bind fun t775 => (if t775 = true then (pylonlaw28_EnergyOptimality.j0 k l0 l1 l2 true) else (if (l2.length : Int) > 30 then (pylonlaw28_EnergyOptimality.j0 k l0 l1 l2 true) else ((pylonlaw28_awake.f k).bind fun t776 => (pylonlaw28_EnergyOptimality.j0 k l0 l1 l2 (!t776)))))) = some r := h
 clear h
 have HC4 := Aside0.mk H
 clear H
 go_enter Try.func10, Try.ntmps10
 go_upto_region 1 with (fail)
 repeat (go_quiet (fail); go_upto_region 1 with (fail))
 go_cut [29] (fun v29 wc => ∃ (kq : Nat) (x29_3 : Bool), v29 = .bool x29_3 ∧ Aside0 (pylonlaw28_EnergyOptimality.j0 kq l0 l1 l2 x29_3 = some r) ∧ Aside0 (kq ≤ k) ∧ Aside0 (Below w.heap.size w wc))
 case first =>
  have H := HC4.out
  clear HC4
  replace H := Option.bind_eq_some_iff.mp H
  obtain ⟨t775, A50, H⟩ := H
  replace H : (if t775 = true then (pylonlaw28_EnergyOptimality.j0 k l0 l1 l2 true) else (if (l2.length : Int) > 30 then (pylonlaw28_EnergyOptimality.j0 k l0 l1 l2 true) else ((pylonlaw28_awake.f k).bind fun t776 => (pylonlaw28_EnergyOptimality.j0 k l0 l1 l2 (!t776))))) = some r := H
  have A5 := Aside0.mk A50
  clear A50
  by_cases c6 : t775 = true
  ·subst c6
   have H1 : (pylonlaw28_EnergyOptimality.j0 k l0 l1 l2 true) = some r := by rw [if_pos rfl] at H; exact H
   clear H
   have H := H1
   clear H1
   have H' := Aside0.mk H
   clear H
   go_wp2_with (first | (go_at_call 29; (with_reducible refine (pylonlaw28_Long.calls k _ _ l0 _ _ l1 true _ ?side1 ?side2 ?side3 ?side4 A5.out).mono ?_); (case side1 => exact cA_ (Kd.C_below HR0.out HB.out)); (case side2 => exact HC0.out); (case side3 => exact cA_ (Kd.C_below HR1.out HB.out)); (case side4 => exact HC1.out); rintro e w' ⟨rfl, ⟨nd, rfl⟩⟩; (try first | exact ⟨rfl, _, World.drewN_drewN _ _ _⟩ | exact ⟨rfl, _, Eq.trans (World.drewN_drewN _ _ _) (congrArg (World.drewN _) (Nat.add_assoc _ _ _))⟩)))
   repeat (go_quiet (first | (go_at_call 29; (with_reducible refine (pylonlaw28_Long.calls k _ _ l0 _ _ l1 true _ ?side1 ?side2 ?side3 ?side4 A5.out).mono ?_); (case side1 => exact cA_ (Kd.C_below HR0.out HB.out)); (case side2 => exact HC0.out); (case side3 => exact cA_ (Kd.C_below HR1.out HB.out)); (case side4 => exact HC1.out); rintro e w' ⟨rfl, ⟨nd, rfl⟩⟩; (try first | exact ⟨rfl, _, World.drewN_drewN _ _ _⟩ | exact ⟨rfl, _, Eq.trans (World.drewN_drewN _ _ _) (congrArg (World.drewN _) (Nat.add_assoc _ _ _))⟩))); try go_wp2_with (first | (go_at_call 29; (with_reducible refine (pylonlaw28_Long.calls k _ _ l0 _ _ l1 true _ ?side1 ?side2 ?side3 ?side4 A5.out).mono ?_); (case side1 => exact cA_ (Kd.C_below HR0.out HB.out)); (case side2 => exact HC0.out); (case side3 => exact cA_ (Kd.C_below HR1.out HB.out)); (case side4 => exact HC1.out); rintro e w' ⟨rfl, ⟨nd, rfl⟩⟩; (try first | exact ⟨rfl, _, World.drewN_drewN _ _ _⟩ | exact ⟨rfl, _, Eq.trans (World.drewN_drewN _ _ _) (congrArg (World.drewN _) (Nat.add_assoc _ _ _))⟩))))
   go_meet
   case rel => exact ⟨_, (true), m_14, H', ⟨m_111⟩, ⟨m_1⟩⟩
  ·replace c6 := Bool.eq_false_iff.mpr c6
   subst c6
   have H1 : (if (l2.length : Int) > 30 then (pylonlaw28_EnergyOptimality.j0 k l0 l1 l2 true) else ((pylonlaw28_awake.f k).bind fun t776 => (pylonlaw28_EnergyOptimality.j0 k l0 l1 l2 (!t776)))) = some r := by rw [if_neg (show ¬ (false = true) by decide)] at H; exact H
   clear H
   have H := H1
   clear H1
   by_cases c7 : (l2.length : Int) > 30
   ·rw [if_pos c7] at H
    have c7b0 : decide (30 < (l2.length : Int)) = true := decide_eq_true c7
    have c7b1 : decide (30 < l2.length) = true := decide_eq_true (by omega)
    clear c7
    (first | rw [c7b0] | (simp only [i64_w, i32_w]; rw [c7b0]) | skip)
    have H' := Aside0.mk H
    clear H
    go_wp2_with (first | (go_at_call 29; (with_reducible refine (pylonlaw28_Long.calls k _ _ l0 _ _ l1 false _ ?side1 ?side2 ?side3 ?side4 A5.out).mono ?_); (case side1 => exact cA_ (Kd.C_below HR0.out HB.out)); (case side2 => exact HC0.out); (case side3 => exact cA_ (Kd.C_below HR1.out HB.out)); (case side4 => exact HC1.out); rintro e w' ⟨rfl, ⟨nd, rfl⟩⟩; (try first | exact ⟨rfl, _, World.drewN_drewN _ _ _⟩ | exact ⟨rfl, _, Eq.trans (World.drewN_drewN _ _ _) (congrArg (World.drewN _) (Nat.add_assoc _ _ _))⟩)))
    repeat (go_quiet (first | (go_at_call 29; (with_reducible refine (pylonlaw28_Long.calls k _ _ l0 _ _ l1 false _ ?side1 ?side2 ?side3 ?side4 A5.out).mono ?_); (case side1 => exact cA_ (Kd.C_below HR0.out HB.out)); (case side2 => exact HC0.out); (case side3 => exact cA_ (Kd.C_below HR1.out HB.out)); (case side4 => exact HC1.out); rintro e w' ⟨rfl, ⟨nd, rfl⟩⟩; (try first | exact ⟨rfl, _, World.drewN_drewN _ _ _⟩ | exact ⟨rfl, _, Eq.trans (World.drewN_drewN _ _ _) (congrArg (World.drewN _) (Nat.add_assoc _ _ _))⟩))); try go_wp2_with (first | (go_at_call 29; (with_reducible refine (pylonlaw28_Long.calls k _ _ l0 _ _ l1 false _ ?side1 ?side2 ?side3 ?side4 A5.out).mono ?_); (case side1 => exact cA_ (Kd.C_below HR0.out HB.out)); (case side2 => exact HC0.out); (case side3 => exact cA_ (Kd.C_below HR1.out HB.out)); (case side4 => exact HC1.out); rintro e w' ⟨rfl, ⟨nd, rfl⟩⟩; (try first | exact ⟨rfl, _, World.drewN_drewN _ _ _⟩ | exact ⟨rfl, _, Eq.trans (World.drewN_drewN _ _ _) (congrArg (World.drewN _) (Nat.add_assoc _ _ _))⟩))))
    go_meet
    case rel => exact ⟨_, (true), m_14, H', ⟨m_111⟩, ⟨m_1⟩⟩
   ·rw [if_neg c7] at H
    have c7b0 : decide (30 < (l2.length : Int)) = false := decide_eq_false c7
    have c7b1 : decide (30 < l2.length) = false := decide_eq_false (by omega)
    clear c7
    (first | rw [c7b0] | (simp only [i64_w, i32_w]; rw [c7b0]) | skip)
    replace H := Option.bind_eq_some_iff.mp H
    obtain ⟨t776, A80, H⟩ := H
    replace H : (pylonlaw28_EnergyOptimality.j0 k l0 l1 l2 (!t776)) = some r := H
    have A8 := Aside0.mk A80
    clear A80
    have H' := Aside0.mk H
    clear H
    go_wp2_with (first | (go_at_call 29; (with_reducible refine (pylonlaw28_Long.calls k _ _ l0 _ _ l1 false _ ?side1 ?side2 ?side3 ?side4 A5.out).mono ?_); (case side1 => exact cA_ (Kd.C_below HR0.out HB.out)); (case side2 => exact HC0.out); (case side3 => exact cA_ (Kd.C_below HR1.out HB.out)); (case side4 => exact HC1.out); rintro e w' ⟨rfl, ⟨nd, rfl⟩⟩; (try first | exact ⟨rfl, _, World.drewN_drewN _ _ _⟩ | exact ⟨rfl, _, Eq.trans (World.drewN_drewN _ _ _) (congrArg (World.drewN _) (Nat.add_assoc _ _ _))⟩)) | (go_at_call 30; (with_reducible refine (pylonlaw28_awake.calls k  t776 _ A8.out).mono ?_); rintro e w9 ⟨rfl, hb⟩; replace HB := Aside0.mk (below_step m_1 hb); clear hb))
    repeat (go_quiet (first | (go_at_call 29; (with_reducible refine (pylonlaw28_Long.calls k _ _ l0 _ _ l1 false _ ?side1 ?side2 ?side3 ?side4 A5.out).mono ?_); (case side1 => exact cA_ (Kd.C_below HR0.out HB.out)); (case side2 => exact HC0.out); (case side3 => exact cA_ (Kd.C_below HR1.out HB.out)); (case side4 => exact HC1.out); rintro e w' ⟨rfl, ⟨nd, rfl⟩⟩; (try first | exact ⟨rfl, _, World.drewN_drewN _ _ _⟩ | exact ⟨rfl, _, Eq.trans (World.drewN_drewN _ _ _) (congrArg (World.drewN _) (Nat.add_assoc _ _ _))⟩)) | (go_at_call 30; (with_reducible refine (pylonlaw28_awake.calls k  t776 _ A8.out).mono ?_); rintro e w9 ⟨rfl, hb⟩; replace HB := Aside0.mk (below_step m_1 hb); (try clear hb))); try go_wp2_with (first | (go_at_call 29; (with_reducible refine (pylonlaw28_Long.calls k _ _ l0 _ _ l1 false _ ?side1 ?side2 ?side3 ?side4 A5.out).mono ?_); (case side1 => exact cA_ (Kd.C_below HR0.out HB.out)); (case side2 => exact HC0.out); (case side3 => exact cA_ (Kd.C_below HR1.out HB.out)); (case side4 => exact HC1.out); rintro e w' ⟨rfl, ⟨nd, rfl⟩⟩; (try first | exact ⟨rfl, _, World.drewN_drewN _ _ _⟩ | exact ⟨rfl, _, Eq.trans (World.drewN_drewN _ _ _) (congrArg (World.drewN _) (Nat.add_assoc _ _ _))⟩)) | (go_at_call 30; (with_reducible refine (pylonlaw28_awake.calls k  t776 _ A8.out).mono ?_); rintro e w9 ⟨rfl, hb⟩; replace HB := Aside0.mk (below_step m_1 hb); (try clear hb))))
    go_meet
    case rel => exact ⟨_, (!t776), m_14, H', ⟨m_111⟩, ⟨m_1⟩⟩
 case rest =>
  clear HC4
  (try clear c1); (try clear c2); (try clear p2); (try clear c6); (try clear c7); (try clear c7b0); (try clear c7b1)
  obtain ⟨kq, x29_3, rfl, HA, HJ3, HB⟩ := hcut
  cases kq with
  | zero => exact absurd HA.out (by simp [pylonlaw28_EnergyOptimality.j0])
  | succ kj3 =>
   have H := HA.out
   clear HA
   simp only [pylonlaw28_EnergyOptimality.j0] at H
   by_cases c10 : x29_3 = true
   ·subst c10
    have H1 : ((pylonlaw28_awake.f kj3).bind fun t777 => (some t777)) = some r := by rw [if_pos rfl] at H; exact H
    clear H
    have H := H1
    clear H1
    replace H := Option.bind_eq_some_iff.mp H
    obtain ⟨t777, A110, H⟩ := H
    replace H : (some t777) = some r := H
    have A11 := Aside0.mk A110
    clear A110
    obtain rfl := Option.some.inj H
    go_wp2_with (first | (go_at_call 30; (with_reducible refine (pylonlaw28_awake.calls kj3  t777 _ A11.out).mono ?_); rintro e w12 ⟨rfl, hb⟩; replace HB := Aside0.mk (below_step m_1 hb); clear hb))
    repeat (go_quiet (first | (go_at_call 30; (with_reducible refine (pylonlaw28_awake.calls kj3  t777 _ A11.out).mono ?_); rintro e w12 ⟨rfl, hb⟩; replace HB := Aside0.mk (below_step m_1 hb); (try clear hb))); try go_wp2_with (first | (go_at_call 30; (with_reducible refine (pylonlaw28_awake.calls kj3  t777 _ A11.out).mono ?_); rintro e w12 ⟨rfl, hb⟩; replace HB := Aside0.mk (below_step m_1 hb); (try clear hb))))
    go_ret
    exact ⟨m_3, m_1⟩
   ·replace c10 := Bool.eq_false_iff.mpr c10
    subst c10
    have H1 : ((energy_Cost.f kj3 l0 l1 l2).bind fun bt778 => (if bt778.2 = 0 then (pylonlaw28_EnergyOptimality.l0 kj3 l0 l1 l2 bt778.1 0 0) else (some (bt778.1 == 0)))) = some r := by rw [if_neg (show ¬ (false = true) by decide)] at H; exact H
    clear H
    have H := H1
    clear H1
    replace H := Option.bind_eq_some_iff.mp H
    obtain ⟨⟨t778, t779⟩, A130, H⟩ := H
    replace H : (if t779 = 0 then (pylonlaw28_EnergyOptimality.l0 kj3 l0 l1 l2 t778 0 0) else (some (t778 == 0))) = some r := H
    have A13 := Aside0.mk A130
    clear A130
    by_cases c14 : t779 = 0
    ·rw [if_pos c14] at H
     have c14b1 : (t779 != 0) = false := bne_eq_false_iff_eq.mpr c14
     clear c14
     have H' := Aside0.mk H
     clear H
     go_wp2_with (first | (go_at_call 31; (with_reducible refine (energy_Cost.calls kj3 _ _ l0 _ _ l1 _ _ l2 t778 t779 _ ?side1 ?side2 ?side3 ?side4 ?side5 ?side6 A13.out).mono ?_); (case side1 => exact cA_ (Kd.C_below HR0.out HB.out)); (case side2 => exact HC0.out); (case side3 => exact cA_ (Kd.C_below HR1.out HB.out)); (case side4 => exact HC1.out); (case side5 => exact cA_ (Kd.C_below HR2.out HB.out)); (case side6 => exact HC2.out); rintro e w15 ⟨rfl, hb⟩; replace HB := Aside0.mk (below_step m_1 hb); clear hb))
     repeat (go_quiet (first | (go_at_call 31; (with_reducible refine (energy_Cost.calls kj3 _ _ l0 _ _ l1 _ _ l2 t778 t779 _ ?side1 ?side2 ?side3 ?side4 ?side5 ?side6 A13.out).mono ?_); (case side1 => exact cA_ (Kd.C_below HR0.out HB.out)); (case side2 => exact HC0.out); (case side3 => exact cA_ (Kd.C_below HR1.out HB.out)); (case side4 => exact HC1.out); (case side5 => exact cA_ (Kd.C_below HR2.out HB.out)); (case side6 => exact HC2.out); rintro e w15 ⟨rfl, hb⟩; replace HB := Aside0.mk (below_step m_1 hb); (try clear hb))); try go_wp2_with (first | (go_at_call 31; (with_reducible refine (energy_Cost.calls kj3 _ _ l0 _ _ l1 _ _ l2 t778 t779 _ ?side1 ?side2 ?side3 ?side4 ?side5 ?side6 A13.out).mono ?_); (case side1 => exact cA_ (Kd.C_below HR0.out HB.out)); (case side2 => exact HC0.out); (case side3 => exact cA_ (Kd.C_below HR1.out HB.out)); (case side4 => exact HC1.out); (case side5 => exact cA_ (Kd.C_below HR2.out HB.out)); (case side6 => exact HC2.out); rintro e w15 ⟨rfl, hb⟩; replace HB := Aside0.mk (below_step m_1 hb); (try clear hb))))
     go_loopg [9, 10] kj3 (fun kq v9 v10 w' => ∃ (x9_2 : Int) (x10_2 : Int), v9 = .int .i64 x9_2 ∧ v10 = .int .i64 x10_2 ∧ Aside0 (pylonlaw28_EnergyOptimality.l0 kq l0 l1 l2 t778 x9_2 x10_2 = some r) ∧ Aside0 (kq ≤ kj3) ∧ Aside0 (Below w.heap.size w w'))
     case atStart => exact ⟨(0), (0), m_14, m_14, H', ⟨Nat.le_refl _⟩, ⟨m_1⟩⟩
     case round =>
      clear H'
      (try clear c1); (try clear c2); (try clear p2); (try clear c6); (try clear c7); (try clear c7b0); (try clear c7b1); (try clear c10); (try clear c14); (try skip); (try clear c14b1); (try clear p2)
      obtain ⟨x9_2, x10_2, rfl, rfl, HA, HK2, HB⟩ := hrel
      cases gk with
      | zero => exact absurd HA.out (by simp [pylonlaw28_EnergyOptimality.l0])
      | succ k2 =>
       have H := HA.out
       clear HA
       simp only [pylonlaw28_EnergyOptimality.l0] at H
       by_cases c16 : x10_2 < (l2.length : Int)
       ·rw [if_pos c16] at H
        have c16b0 : decide (x10_2 < (l2.length : Int)) = true := decide_eq_true c16
        clear c16
        by_cases c17 : 0 ≤ x10_2
        ·rw [if_pos c17] at H
         have c17b0 : decide (0 ≤ x10_2) = true := decide_eq_true c17
         clear c17
         have H' := Aside0.mk H
         clear H
         have p780 : 0 ≤ (x10_2 : Int) := of_decide_eq_true m_10
         have q780 : x10_2 < (l2.length : Int) := of_decide_eq_true m_10
         obtain ⟨ad780, e780, hx780_0⟩ := Kd.at_int HR2.out x10_2 p780 q780
         cases e780
         replace hx780_0 := mv_ HB hx780_0
         replace p780 := eq_true p780
         replace q780 := eq_true q780
         go_wp2
         repeat (go_quiet (fail); try go_wp2)
         go_roundg k2
         case measure => have := HJ3.out; have := HK2.out; omega
         case rel => exact ⟨(wrap64 (x9_2 + (rd l2 x10_2))), (wrap64 (x10_2 + 1)), m_14, m_14, H', ⟨(by have := HJ3.out; have := HK2.out; omega)⟩, ⟨m_1⟩⟩
        ·rw [if_neg c17] at H
         exact absurd H (by simp)
       ·rw [if_neg c16] at H
        have c16b0 : decide (x10_2 < (l2.length : Int)) = false := decide_eq_false c16
        clear c16
        replace H := Option.bind_eq_some_iff.mp H
        obtain ⟨⟨t781, t782⟩, A180, H⟩ := H
        replace H : ((energy_LeastCost.f k2 l0 l1 x9_2).bind fun bt785 => ((energy_Cost.f k2 l0 l1 t781).bind fun bt787 => (if t782 = 0 then (if bt785.2 = 0 then (if bt787.2 = 0 then (if bt787.1 = bt785.1 then (pylonlaw28_EnergyOptimality.j2 k2 l2 t778 t781 bt785.1 (decide (bt785.1 > t778))) else (pylonlaw28_EnergyOptimality.j2 k2 l2 t778 t781 bt785.1 true)) else (pylonlaw28_EnergyOptimality.j2 k2 l2 t778 t781 bt785.1 true)) else (pylonlaw28_EnergyOptimality.j2 k2 l2 t778 t781 bt785.1 true)) else (pylonlaw28_EnergyOptimality.j2 k2 l2 t778 t781 bt785.1 true)))) = some r := H
        have A18 := Aside0.mk A180
        clear A180
        replace H := Option.bind_eq_some_iff.mp H
        obtain ⟨⟨t785, t786⟩, A190, H⟩ := H
        replace H : ((energy_Cost.f k2 l0 l1 t781).bind fun bt787 => (if t782 = 0 then (if t786 = 0 then (if bt787.2 = 0 then (if bt787.1 = t785 then (pylonlaw28_EnergyOptimality.j2 k2 l2 t778 t781 t785 (decide (t785 > t778))) else (pylonlaw28_EnergyOptimality.j2 k2 l2 t778 t781 t785 true)) else (pylonlaw28_EnergyOptimality.j2 k2 l2 t778 t781 t785 true)) else (pylonlaw28_EnergyOptimality.j2 k2 l2 t778 t781 t785 true)) else (pylonlaw28_EnergyOptimality.j2 k2 l2 t778 t781 t785 true))) = some r := H
        have A19 := Aside0.mk A190
        clear A190
        replace H := Option.bind_eq_some_iff.mp H
        obtain ⟨⟨t787, t788⟩, A200, H⟩ := H
        replace H : (if t782 = 0 then (if t786 = 0 then (if t788 = 0 then (if t787 = t785 then (pylonlaw28_EnergyOptimality.j2 k2 l2 t778 t781 t785 (decide (t785 > t778))) else (pylonlaw28_EnergyOptimality.j2 k2 l2 t778 t781 t785 true)) else (pylonlaw28_EnergyOptimality.j2 k2 l2 t778 t781 t785 true)) else (pylonlaw28_EnergyOptimality.j2 k2 l2 t778 t781 t785 true)) else (pylonlaw28_EnergyOptimality.j2 k2 l2 t778 t781 t785 true)) = some r := H
        have A20 := Aside0.mk A200
        clear A200
        have HC21 := Aside0.mk H
        clear H
        go_upto_region 14 with (first | (go_at_call 32; (with_reducible refine (energy_Allocate.calls k2 _ _ l0 _ _ l1 x9_2 t781 t782 _ ?side1 ?side2 ?side3 ?side4 A18.out).mono ?_); (case side1 => exact cA_ (Kd.C_below HR0.out HB.out)); (case side2 => exact HC0.out); (case side3 => exact cA_ (Kd.C_below HR1.out HB.out)); (case side4 => exact HC1.out); rintro e w22 ⟨v783, rfl, ho0, hb⟩; have HO784 := Aside0.mk (Kd.R_lower ho0 (below_size m_1)); replace HB := Aside0.mk (below_step m_1 hb); (try clear hb); (try clear ho0)) | (go_at_call 33; (with_reducible refine (energy_LeastCost.calls k2 _ _ l0 _ _ l1 x9_2 t785 t786 _ ?side1 ?side2 ?side3 ?side4 A19.out).mono ?_); (case side1 => exact cA_ (Kd.C_below HR0.out HB.out)); (case side2 => exact HC0.out); (case side3 => exact cA_ (Kd.C_below HR1.out HB.out)); (case side4 => exact HC1.out); rintro e w23 ⟨rfl, hb⟩; replace HO784 := rB_ HO784 hb; replace HB := Aside0.mk (below_step m_1 hb); (try clear hb); obtain ⟨Ao24, co24, eo24⟩ := Kd.R_slice HO784.out; subst eo24) | (go_at_call 31; (with_reducible refine (energy_Cost.calls k2 _ _ l0 _ _ l1 _ _ t781 t787 t788 _ ?side1 ?side2 ?side3 ?side4 ?side5 ?side6 A20.out).mono ?_); (case side1 => exact cA_ (Kd.C_below HR0.out HB.out)); (case side2 => exact HC0.out); (case side3 => exact cA_ (Kd.C_below HR1.out HB.out)); (case side4 => exact HC1.out); (case side5 => exact cA_ (Kd.R_reads' HO784.out).2.2); (case side6 => exact (Kd.R_reads' HO784.out).2.1); rintro e w25 ⟨rfl, hb⟩; replace HO784 := rB_ HO784 hb; replace HB := Aside0.mk (below_step m_1 hb); (try clear hb)))
        repeat (go_quiet (first | (go_at_call 32; (with_reducible refine (energy_Allocate.calls k2 _ _ l0 _ _ l1 x9_2 t781 t782 _ ?side1 ?side2 ?side3 ?side4 A18.out).mono ?_); (case side1 => exact cA_ (Kd.C_below HR0.out HB.out)); (case side2 => exact HC0.out); (case side3 => exact cA_ (Kd.C_below HR1.out HB.out)); (case side4 => exact HC1.out); rintro e w22 ⟨v783, rfl, ho0, hb⟩; have HO784 := Aside0.mk (Kd.R_lower ho0 (below_size m_1)); replace HB := Aside0.mk (below_step m_1 hb); (try clear hb); (try clear ho0)) | (go_at_call 33; (with_reducible refine (energy_LeastCost.calls k2 _ _ l0 _ _ l1 x9_2 t785 t786 _ ?side1 ?side2 ?side3 ?side4 A19.out).mono ?_); (case side1 => exact cA_ (Kd.C_below HR0.out HB.out)); (case side2 => exact HC0.out); (case side3 => exact cA_ (Kd.C_below HR1.out HB.out)); (case side4 => exact HC1.out); rintro e w23 ⟨rfl, hb⟩; replace HO784 := rB_ HO784 hb; replace HB := Aside0.mk (below_step m_1 hb); (try clear hb); obtain ⟨Ao24, co24, eo24⟩ := Kd.R_slice HO784.out; subst eo24) | (go_at_call 31; (with_reducible refine (energy_Cost.calls k2 _ _ l0 _ _ l1 _ _ t781 t787 t788 _ ?side1 ?side2 ?side3 ?side4 ?side5 ?side6 A20.out).mono ?_); (case side1 => exact cA_ (Kd.C_below HR0.out HB.out)); (case side2 => exact HC0.out); (case side3 => exact cA_ (Kd.C_below HR1.out HB.out)); (case side4 => exact HC1.out); (case side5 => exact cA_ (Kd.R_reads' HO784.out).2.2); (case side6 => exact (Kd.R_reads' HO784.out).2.1); rintro e w25 ⟨rfl, hb⟩; replace HO784 := rB_ HO784 hb; replace HB := Aside0.mk (below_step m_1 hb); (try clear hb))); go_upto_region 14 with (first | (go_at_call 32; (with_reducible refine (energy_Allocate.calls k2 _ _ l0 _ _ l1 x9_2 t781 t782 _ ?side1 ?side2 ?side3 ?side4 A18.out).mono ?_); (case side1 => exact cA_ (Kd.C_below HR0.out HB.out)); (case side2 => exact HC0.out); (case side3 => exact cA_ (Kd.C_below HR1.out HB.out)); (case side4 => exact HC1.out); rintro e w22 ⟨v783, rfl, ho0, hb⟩; have HO784 := Aside0.mk (Kd.R_lower ho0 (below_size m_1)); replace HB := Aside0.mk (below_step m_1 hb); (try clear hb); (try clear ho0)) | (go_at_call 33; (with_reducible refine (energy_LeastCost.calls k2 _ _ l0 _ _ l1 x9_2 t785 t786 _ ?side1 ?side2 ?side3 ?side4 A19.out).mono ?_); (case side1 => exact cA_ (Kd.C_below HR0.out HB.out)); (case side2 => exact HC0.out); (case side3 => exact cA_ (Kd.C_below HR1.out HB.out)); (case side4 => exact HC1.out); rintro e w23 ⟨rfl, hb⟩; replace HO784 := rB_ HO784 hb; replace HB := Aside0.mk (below_step m_1 hb); (try clear hb); obtain ⟨Ao24, co24, eo24⟩ := Kd.R_slice HO784.out; subst eo24) | (go_at_call 31; (with_reducible refine (energy_Cost.calls k2 _ _ l0 _ _ l1 _ _ t781 t787 t788 _ ?side1 ?side2 ?side3 ?side4 ?side5 ?side6 A20.out).mono ?_); (case side1 => exact cA_ (Kd.C_below HR0.out HB.out)); (case side2 => exact HC0.out); (case side3 => exact cA_ (Kd.C_below HR1.out HB.out)); (case side4 => exact HC1.out); (case side5 => exact cA_ (Kd.R_reads' HO784.out).2.2); (case side6 => exact (Kd.R_reads' HO784.out).2.1); rintro e w25 ⟨rfl, hb⟩; replace HO784 := rB_ HO784 hb; replace HB := Aside0.mk (below_step m_1 hb); (try clear hb))))
        (try simp only [Act.put, List.setIfInBounds_toArray, List.set_cons_zero, List.set_cons_succ])
        go_cut [94] (fun v94 wc => ∃ (kq : Nat) (x94_20 : Bool), v94 = .bool x94_20 ∧ Aside0 (pylonlaw28_EnergyOptimality.j2 kq l2 t778 t781 t785 x94_20 = some r) ∧ Aside0 (kq ≤ k2) ∧ Aside0 (Kd.R (Kd.int .i64) 2 wc w.heap.size (fun _ => True) (.slice Ao24 t781.length co24) t781) ∧ Aside0 (Below w.heap.size w wc))
        case first =>
         have H := HC21.out
         clear HC21
         by_cases c26 : t782 = 0
         ·rw [if_pos c26] at H
          have c26b0 : (t782 == 0) = true := beq_iff_eq.mpr c26
          have c26b1 : (t782 != 0) = false := bne_eq_false_iff_eq.mpr c26
          clear c26
          (first | rw [c26b0] | (simp only [i64_w, i32_w]; rw [c26b0]) | skip)
          by_cases c27 : t786 = 0
          ·rw [if_pos c27] at H
           have c27b0 : (t786 == 0) = true := beq_iff_eq.mpr c27
           have c27b1 : (t786 != 0) = false := bne_eq_false_iff_eq.mpr c27
           clear c27
           by_cases c28 : t788 = 0
           ·rw [if_pos c28] at H
            have c28b0 : (t788 == 0) = true := beq_iff_eq.mpr c28
            have c28b1 : (t788 != 0) = false := bne_eq_false_iff_eq.mpr c28
            clear c28
            by_cases c29 : t787 = t785
            ·rw [if_pos c29] at H
             have c29b0 : (t787 == t785) = true := beq_iff_eq.mpr c29
             have c29b1 : (t787 != t785) = false := bne_eq_false_iff_eq.mpr c29
             clear c29
             have H' := Aside0.mk H
             clear H
             go_wp2
             repeat (go_quiet (fail); try go_wp2)
             go_meet
             case rel => exact ⟨_, (decide (t785 > t778)), m_14, H', ⟨m_114⟩, ⟨m_79⟩, ⟨m_1⟩⟩
            ·rw [if_neg c29] at H
             have c29b0 : (t787 == t785) = false := beq_eq_false_iff_ne.mpr c29
             have c29b1 : (t787 != t785) = true := bne_iff_ne.mpr c29
             have H' := Aside0.mk H
             clear H
             go_wp2
             repeat (go_quiet (fail); try go_wp2)
             go_meet
             case rel => exact ⟨_, (true), m_14, H', ⟨m_114⟩, ⟨m_79⟩, ⟨m_1⟩⟩
           ·rw [if_neg c28] at H
            have c28b0 : (t788 == 0) = false := beq_eq_false_iff_ne.mpr c28
            have c28b1 : (t788 != 0) = true := bne_iff_ne.mpr c28
            have H' := Aside0.mk H
            clear H
            go_wp2
            repeat (go_quiet (fail); try go_wp2)
            go_meet
            case rel => exact ⟨_, (true), m_14, H', ⟨m_114⟩, ⟨m_79⟩, ⟨m_1⟩⟩
          ·rw [if_neg c27] at H
           have c27b0 : (t786 == 0) = false := beq_eq_false_iff_ne.mpr c27
           have c27b1 : (t786 != 0) = true := bne_iff_ne.mpr c27
           have H' := Aside0.mk H
           clear H
           go_wp2
           repeat (go_quiet (fail); try go_wp2)
           go_meet
           case rel => exact ⟨_, (true), m_14, H', ⟨m_114⟩, ⟨m_79⟩, ⟨m_1⟩⟩
         ·rw [if_neg c26] at H
          have c26b0 : (t782 == 0) = false := beq_eq_false_iff_ne.mpr c26
          have c26b1 : (t782 != 0) = true := bne_iff_ne.mpr c26
          (first | rw [c26b0] | (simp only [i64_w, i32_w]; rw [c26b0]) | skip)
          have H' := Aside0.mk H
          clear H
          go_wp2
          repeat (go_quiet (fail); try go_wp2)
          go_meet
          case rel => exact ⟨_, (true), m_14, H', ⟨m_114⟩, ⟨m_79⟩, ⟨m_1⟩⟩
        case rest =>
         clear HC21
         (try clear c1); (try clear c2); (try clear p2); (try clear c6); (try clear p6); (try clear c7); (try clear c7b0); (try clear c7b1); (try clear p7); (try clear q7); (try clear hx7); (try clear c10); (try clear c14); (try skip); (try clear c14b1); (try clear c16); (try clear c16b0); (try clear c17); (try clear c17b0); (try clear c26); (try clear c26b0); (try clear c26b1); (try clear c27); (try clear c27b0); (try clear c27b1); (try clear c28); (try clear c28b0); (try clear c28b1); (try clear c29); (try clear c29b0); (try clear c29b1); (try clear hx780_0); (try clear p2); (try clear p780); (try clear q780)
         obtain ⟨kq, x94_20, rfl, HA, HJ20, HO_11, HB⟩ := hcut
         cases kq with
         | zero => exact absurd HA.out (by simp [pylonlaw28_EnergyOptimality.j2])
         | succ kj20 =>
          have H := HA.out
          clear HA
          simp only [pylonlaw28_EnergyOptimality.j2] at H
          by_cases c30 : x94_20 = true
          ·subst c30
           have H1 : (some false) = some r := by rw [if_pos rfl] at H; exact H
           clear H
           have H := H1
           clear H1
           obtain rfl := Option.some.inj H
           go_wp2
           repeat (go_quiet (fail); try go_wp2)
           go_ret
           exact ⟨m_3, m_1⟩
          ·replace c30 := Bool.eq_false_iff.mpr c30
           subst c30
           have H1 : (if t785 < t778 then (some true) else (pylonlaw28_EnergyOptimality.l1 kj20 l2 t781 0)) = some r := by rw [if_neg (show ¬ (false = true) by decide)] at H; exact H
           clear H
           have H := H1
           clear H1
           by_cases c31 : t785 < t778
           ·rw [if_pos c31] at H
            have c31b0 : decide (t785 < t778) = true := decide_eq_true c31
            clear c31
            obtain rfl := Option.some.inj H
            go_wp2
            repeat (go_quiet (fail); try go_wp2)
            go_ret
            exact ⟨m_3, m_1⟩
           ·rw [if_neg c31] at H
            have c31b0 : decide (t785 < t778) = false := decide_eq_false c31
            clear c31
            have H' := Aside0.mk H
            clear H
            go_wp2
            repeat (go_quiet (fail); try go_wp2)
            go_loopg [17] kj20 (fun kq v17 w' => ∃ (x17_4 : Int), v17 = .int .i64 x17_4 ∧ Aside0 (pylonlaw28_EnergyOptimality.l1 kq l2 t781 x17_4 = some r) ∧ Aside0 (kq ≤ kj20) ∧ Aside0 (Kd.R (Kd.int .i64) 2 w' w.heap.size (fun _ => True) (.slice Ao24 t781.length co24) t781) ∧ Aside0 (Below w.heap.size w w'))
            case atStart => exact ⟨(0), m_14, H', ⟨Nat.le_refl _⟩, ⟨(by (with_reducible repeat (first | apply Kd.R_alloc | apply Kd.R_drewN | apply Kd.R_drew)); exact HO_11.out)⟩, ⟨m_1⟩⟩
            case round =>
             clear H'
             (try clear c1); (try clear c2); (try clear p2); (try clear c3); (try clear c6); (try clear p6); (try clear c7); (try clear c7b0); (try clear c7b1); (try clear p7); (try clear q7); (try clear hx7); (try clear c10); (try clear c14); (try skip); (try clear c14b1); (try clear c16); (try clear c16b0); (try clear c17); (try clear c17b0); (try clear c26); (try clear c26b0); (try clear c26b1); (try clear c27); (try clear c27b0); (try clear c27b1); (try clear c28); (try clear c28b0); (try clear c28b1); (try clear c29); (try clear c29b0); (try clear c29b1); (try clear c30); (try clear c31); (try clear c31b0); (try clear hx780_0); (try clear p2); (try clear p6); (try clear p7); (try clear p780); (try clear q7); (try clear q780)
             obtain ⟨x17_4, rfl, HA, HK4, HO_11, HB⟩ := hrel
             cases gk with
             | zero => exact absurd HA.out (by simp [pylonlaw28_EnergyOptimality.l1])
             | succ k4 =>
              have H := HA.out
              clear HA
              simp only [pylonlaw28_EnergyOptimality.l1] at H
              by_cases c32 : x17_4 < (l2.length : Int)
              ·rw [if_pos c32] at H
               have c32b0 : decide (x17_4 < (l2.length : Int)) = true := decide_eq_true c32
               clear c32
               by_cases c33 : 0 ≤ x17_4
               ·rw [if_pos c33] at H
                have c33b0 : decide (0 ≤ x17_4) = true := decide_eq_true c33
                clear c33
                by_cases c34 : x17_4 < (t781.length : Int)
                ·rw [if_pos c34] at H
                 have c34b0 : decide (x17_4 < (t781.length : Int)) = true := decide_eq_true c34
                 clear c34
                 by_cases c35 : (rd t781 x17_4) = (rd l2 x17_4)
                 ·rw [if_pos c35] at H
                  have c35b1 : ((rd t781 x17_4) != (rd l2 x17_4)) = false := bne_eq_false_iff_eq.mpr c35
                  clear c35
                  have H' := Aside0.mk H
                  clear H
                  have p789 : 0 ≤ (x17_4 : Int) := of_decide_eq_true m_10
                  have q789 : x17_4 < (t781.length : Int) := of_decide_eq_true m_10
                  obtain ⟨ad789, e789, hx789_0⟩ := Kd.at_int (Kd.R_reads' HO_11.out).2.2 x17_4 p789 q789
                  cases e789
                  replace p789 := eq_true p789
                  replace q789 := eq_true q789
                  have p790 : 0 ≤ (x17_4 : Int) := of_decide_eq_true m_10
                  have q790 : x17_4 < (l2.length : Int) := of_decide_eq_true m_10
                  obtain ⟨ad790, e790, hx790_0⟩ := Kd.at_int HR2.out x17_4 p790 q790
                  cases e790
                  replace hx790_0 := mv_ HB hx790_0
                  replace q790 := eq_true q790
                  go_wp2
                  repeat (go_quiet (fail); try go_wp2)
                  go_roundg k4
                  case measure => have := HJ3.out; have := HK2.out; have := HJ20.out; have := HK4.out; omega
                  case rel => exact ⟨(wrap64 (x17_4 + 1)), m_14, H', ⟨(by have := HJ3.out; have := HK2.out; have := HJ20.out; have := HK4.out; omega)⟩, ⟨(by (with_reducible repeat (first | apply Kd.R_alloc | apply Kd.R_drewN | apply Kd.R_drew)); exact HO_11.out)⟩, ⟨m_1⟩⟩
                 ·rw [if_neg c35] at H
                  have c35b1 : ((rd t781 x17_4) != (rd l2 x17_4)) = true := bne_iff_ne.mpr c35
                  obtain rfl := Option.some.inj H
                  have p789 : 0 ≤ (x17_4 : Int) := of_decide_eq_true m_10
                  have q789 : x17_4 < (t781.length : Int) := of_decide_eq_true m_10
                  obtain ⟨ad789, e789, hx789_0⟩ := Kd.at_int (Kd.R_reads' HO_11.out).2.2 x17_4 p789 q789
                  cases e789
                  replace p789 := eq_true p789
                  replace q789 := eq_true q789
                  have p790 : 0 ≤ (x17_4 : Int) := of_decide_eq_true m_10
                  have q790 : x17_4 < (l2.length : Int) := of_decide_eq_true m_10
                  obtain ⟨ad790, e790, hx790_0⟩ := Kd.at_int HR2.out x17_4 p790 q790
                  cases e790
                  replace hx790_0 := mv_ HB hx790_0
                  replace q790 := eq_true q790
                  have p791 : 0 ≤ (x17_4 : Int) := of_decide_eq_true m_10
                  have q791 : x17_4 < (t781.length : Int) := of_decide_eq_true m_10
                  obtain ⟨ad791, e791, hx791_0⟩ := Kd.at_int (Kd.R_reads' HO_11.out).2.2 x17_4 p791 q791
                  obtain rfl : ad789 = ad791 := (by injection e791)
                  have p792 : 0 ≤ (x17_4 : Int) := of_decide_eq_true m_10
                  have q792 : x17_4 < (l2.length : Int) := of_decide_eq_true m_10
                  obtain ⟨ad792, e792, hx792_0⟩ := Kd.at_int HR2.out x17_4 p792 q792
                  obtain rfl : ad790 = ad792 := (by injection e792)
                  go_wp2
                  repeat (go_quiet (fail); try go_wp2)
                  go_ret
                  exact ⟨m_3, m_1⟩
                ·rw [if_neg c34] at H
                 exact absurd H (by simp)
               ·rw [if_neg c33] at H
                exact absurd H (by simp)
              ·rw [if_neg c32] at H
               have c32b0 : decide (x17_4 < (l2.length : Int)) = false := decide_eq_false c32
               clear c32
               obtain rfl := Option.some.inj H
               go_wp2
               repeat (go_quiet (fail); try go_wp2)
               go_ret
               exact ⟨m_3, m_1⟩
    ·rw [if_neg c14] at H
     have c14b1 : (t779 != 0) = true := bne_iff_ne.mpr c14
     obtain rfl := Option.some.inj H
     go_wp2_with (first | (go_at_call 31; (with_reducible refine (energy_Cost.calls kj3 _ _ l0 _ _ l1 _ _ l2 t778 t779 _ ?side1 ?side2 ?side3 ?side4 ?side5 ?side6 A13.out).mono ?_); (case side1 => exact cA_ (Kd.C_below HR0.out HB.out)); (case side2 => exact HC0.out); (case side3 => exact cA_ (Kd.C_below HR1.out HB.out)); (case side4 => exact HC1.out); (case side5 => exact cA_ (Kd.C_below HR2.out HB.out)); (case side6 => exact HC2.out); rintro e w36 ⟨rfl, hb⟩; replace HB := Aside0.mk (below_step m_1 hb); clear hb))
     repeat (go_quiet (first | (go_at_call 31; (with_reducible refine (energy_Cost.calls kj3 _ _ l0 _ _ l1 _ _ l2 t778 t779 _ ?side1 ?side2 ?side3 ?side4 ?side5 ?side6 A13.out).mono ?_); (case side1 => exact cA_ (Kd.C_below HR0.out HB.out)); (case side2 => exact HC0.out); (case side3 => exact cA_ (Kd.C_below HR1.out HB.out)); (case side4 => exact HC1.out); (case side5 => exact cA_ (Kd.C_below HR2.out HB.out)); (case side6 => exact HC2.out); rintro e w36 ⟨rfl, hb⟩; replace HB := Aside0.mk (below_step m_1 hb); (try clear hb))); try go_wp2_with (first | (go_at_call 31; (with_reducible refine (energy_Cost.calls kj3 _ _ l0 _ _ l1 _ _ l2 t778 t779 _ ?side1 ?side2 ?side3 ?side4 ?side5 ?side6 A13.out).mono ?_); (case side1 => exact cA_ (Kd.C_below HR0.out HB.out)); (case side2 => exact HC0.out); (case side3 => exact cA_ (Kd.C_below HR1.out HB.out)); (case side4 => exact HC1.out); (case side5 => exact cA_ (Kd.C_below HR2.out HB.out)); (case side6 => exact HC2.out); rintro e w36 ⟨rfl, hb⟩; replace HB := Aside0.mk (below_step m_1 hb); (try clear hb))))
     go_ret
     exact ⟨m_3, m_1⟩
theorem opt_l1 {l0 : List S24} {l1 : List Bool} {d : Int} {l r : List Int} (hb : Best l0 l1 d l) (h1 : r.length = l0.length) (h2 : allR l0 l1 r = true) (h3 : sumL r = d) (he : sumP l0 l = sumP l0 r) (hl5 : l0.length ≤ 5) (n : Nat) :
    ∀ i : Nat, r.length - i = n → i ≤ r.length → l.take i = r.take i → Evs (fun k => pylonlaw28_EnergyOptimality.l1 k r l (i : Int)) true := by
  induction n with
  | zero =>
    intro i hd hi _
    obtain rfl : i = r.length := by omega
    refine Evs.succ (Evs.all fun k => ?_)
    simp only [pylonlaw28_EnergyOptimality.l1]
    rw [if_neg (by omega)]
  | succ n ih =>
    intro i hd hi ht
    have hlen := hb.len
    have a1 : i < r.length := by omega
    have a2 : i < l.length := by omega
    have e1 : rd r (i : Int) = r[i] := by simp [rd, a1]
    have e2 : rd l (i : Int) = l[i] := by simp [rd, a2]
    have hle := hb.lex r h1 h2 h3 he i a2 a1 ht
    refine Evs.succ ?_
    simp only [pylonlaw28_EnergyOptimality.l1, if_pos (show (i : Int) < (r.length : Int) by omega), if_pos (show (0 : Int) ≤ (i : Int) by omega), if_pos (show (i : Int) < (l.length : Int) by omega), e1, e2]
    by_cases c : l[i] = r[i]
    · simp only [if_pos c]
      rw [wrap_id (x := (i : Int) + 1) (by omega) (by omega)]
      refine ih (i + 1) (by omega) (by omega) ?_
      rw [List.take_succ_eq_append_getElem a1, List.take_succ_eq_append_getElem a2, ht, c]
    · simp only [if_neg c]
      exact Evs.const (congrArg some (decide_eq_true (by omega)))
theorem opt_l0 {l0 : List S24} {l1 : List Bool} {r : List Int} (hc : ckF l0 l1 = 0) (h1 : r.length = l0.length) (h2 : allR l0 l1 r = true) (n : Nat) :
    ∀ i : Nat, r.length - i = n → i ≤ r.length → Evs (fun k => pylonlaw28_EnergyOptimality.l0 k l0 l1 r (sumP l0 r) (sumL (r.take i)) (i : Int)) true := by
  obtain ⟨h5, hl1, ho⟩ := ck_ok hc
  have hm := row_mem l0 l1 r ho hl1 h1 h2
  induction n with
  | zero =>
    intro i hd hi
    obtain rfl : i = r.length := by omega
    rw [List.take_length]
    obtain ⟨_, _, _, _, l, e1, hb, e2⟩ := allocR_ok (alloc_row hc h1 h2)
    have e3 := cost_is hc hb.len hb.ok
    have hle := hb.le r h1 h2 rfl
    refine Evs.succ ?_
    simp only [pylonlaw28_EnergyOptimality.l0]
    simp only [if_neg (show ¬ ((r.length : Nat) : Int) < (r.length : Int) by omega)]
    have ha := alloc_f l0 l1 (sumL r)
    rw [e1] at ha
    have hg := least_f l0 l1 (sumL r)
    rw [e2] at hg
    have hk := Cost_f l0 l1 l
    rw [e3] at hk
    refine ha.bind (hg.bind (hk.bind ?_))
    simp only [if_true]
    rw [decide_eq_false (show ¬ sumP l0 l > sumP l0 r by omega)]
    refine Evs.succ ?_
    simp only [pylonlaw28_EnergyOptimality.j2, if_neg (show ¬ (false = true) by decide)]
    by_cases c : sumP l0 l < sumP l0 r
    · simp only [if_pos c]; exact Evs.const rfl
    · simp only [if_neg c]
      exact opt_l1 hb h1 h2 rfl (by omega) h5 r.length 0 (by omega) (by omega) (by simp)
  | succ n ih =>
    intro i hd hi
    have a1 : i < r.length := by omega
    have e1 : rd r (i : Int) = r[i] := by simp [rd, a1]
    have hx := hm r[i] (List.getElem_mem a1)
    have hs := sumL_bnd (r.take i) (fun x hx => hm x (List.mem_of_mem_take hx))
    rw [List.length_take] at hs
    have h := ih (i + 1) (by omega) (by omega)
    rw [sumL_take a1] at h
    refine Evs.succ ?_
    simp only [pylonlaw28_EnergyOptimality.l0, if_pos (show (i : Int) < (r.length : Int) by omega), if_pos (show (0 : Int) ≤ (i : Int) by omega), e1]
    rw [wrap_id (x := (i : Int) + 1) (by omega) (by omega), wrap_id (x := sumL (r.take i) + r[i]) (by omega) (by omega)]
    exact h
theorem optimality_plain (l0 : List S24) (l1 : List Bool) (l2 : List Int) : Evs (fun k => pylonlaw28_EnergyOptimality.f k l0 l1 l2) true := by
  have hj : Evs (fun k => pylonlaw28_EnergyOptimality.j0 k l0 l1 l2 true) true := by
    refine Evs.succ ?_
    simp only [pylonlaw28_EnergyOptimality.j0, if_true]
    exact awake_f.bind (Evs.const rfl)
  unfold pylonlaw28_EnergyOptimality.f
  refine (Long_f l0 l1).bind ?_
  by_cases hL : longB l0 l1 = true
  · simp only [if_pos hL]
    exact hj
  · simp only [if_neg hL]
    by_cases hA : (l2.length : Int) > 30
    · simp only [if_pos hA]
      exact hj
    · simp only [if_neg hA]
      refine awake_f.bind ?_
      refine Evs.succ ?_
      simp only [pylonlaw28_EnergyOptimality.j0, Bool.not_true, if_neg (show ¬ (false = true) by decide)]
      refine (Cost_f l0 l1 l2).bind ?_
      by_cases c0 : (costR l0 l1 l2).2 = 0
      · simp only [if_pos c0]
        obtain ⟨hc, h1, h2, e⟩ := cost_ok c0
        rw [e]
        exact opt_l0 hc h1 h2 l2.length 0 (by omega) (by omega)
      · simp only [if_neg c0]
        rw [cost_err c0]
        exact Evs.const rfl
end Go.Proofs.Ytelklgdmhnkenaa.U
namespace Go.Proofs.Ytelklgdmhnkenaa.U
open Go.ChangeShapes Go.WideShapes Go.Deep
section
variable {H : Type} {enc : TypeId × Value → H} {P : Program} {w : World} {base : Nat} {spare : Nat → Bool} {held : Bool}
def Opens (enc : TypeId × Value → H) (P : Program) (w : World) (base : Nat) (spare : Nat → Bool) (held : Bool) {α : Type} (d : Kd α) (Q : α → Prop) (t : TypeId) : Prop :=
 ∀ (fuel : Nat) (cs : List Value) (x : DataW H × List MemPlace), DataW.trod enc P w base spare held fuel t cs = some x → ∃ y, d.K w y cs ∧ Q y
theorem opens_int {t : TypeId} {k : IntKind} (ht : P.underlying t = some (.int k)) : Opens enc P w base spare held (Kd.int k) (fun n => (Lit.int k n).wf = true) t := by
 intro fuel cs x h
 obtain ⟨n, hc, _, hw⟩ := DataW.trod_int ht h
 exact ⟨n, hc, hw⟩
theorem opens_bool {t : TypeId} (ht : P.underlying t = some .bool) : Opens enc P w base spare held Kd.bool (fun _ => True) t := by
 intro fuel cs x h
 obtain ⟨b, hc, _⟩ := DataW.trod_bool ht h
 exact ⟨b, hc, trivial⟩
theorem list_of {α : Type} (m : Nat) (R : Nat → α → Prop) (h : ∀ i, i < m → ∃ y, R i y) : ∃ l : List α, l.length = m ∧ ∀ i y, l[i]? = some y → R i y := by
 induction m with
 | zero => exact ⟨[], rfl, fun i y hy => by simp at hy⟩
 | succ m ih =>
  obtain ⟨l, hl, hr⟩ := ih (fun i hi => h i (by omega))
  obtain ⟨y, hy⟩ := h m (by omega)
  refine ⟨l ++ [y], (by simp [hl]), fun i z hz => ?_⟩
  rcases Nat.lt_or_ge i l.length with hi | hi
  ·rw [List.getElem?_append_left hi] at hz
   exact hr i z hz
  ·have : i = m := by
    have := (List.getElem?_eq_some_iff.1 hz).1
    simp at this
    omega
   subst this
   rw [← hl] at hz ⊢
   have : y = z := by simpa using hz
   subst this
   rw [hl]
   exact hy
theorem opens_slice {α : Type} {d : Kd α} {Q : α → Prop} {t e : TypeId} (ht : P.underlying t = some (.slice e)) (he : Opens enc P w base spare held d Q e) (hC : P.cellsOf e = d.sz) :
  Opens enc P w base spare held (Kd.slice e d) (fun l => ∀ y ∈ l, Q y) t := by
 intro fuel cs x h
 rcases open_slice ht h with ⟨rfl, _⟩ | ⟨a, len, cap, m, n, D, Pl, rfl, _, hl, hm, hmm, _, hi⟩
 ·exact ⟨[], ⟨none, 0, rfl, Nat.le_refl _, rfl, (by simp), fun h => absurd h (by simp)⟩, fun y hy => by cases hy⟩
 ·have hlm : len ≤ m := by rw [hmm]; split <;> omega
  obtain ⟨l, hll, hr⟩ := list_of len (fun i y => Q y ∧ ∃ cs', d.K w y cs' ∧ ∀ j u, cs'[j]? = some u → w.cell? (a.add (i * d.sz + j)) = some u) (fun i hil => by
   obtain ⟨cs', hc, htr⟩ := hi i (by omega)
   obtain ⟨y, hK, hQ⟩ := he _ _ _ htr
   rw [hC] at hc
   obtain ⟨_, hcl, hat⟩ := World.cells?_some hc
   refine ⟨y, hQ, cs', hK, fun j u hj => ?_⟩
   have hj' : j < d.sz := by have := (List.getElem?_eq_some_iff.1 hj).1; omega
   rw [← Go.Deep.add_add, hat j hj', hj])
  subst hll
  refine ⟨l, ⟨some a, cap, rfl, hl, rfl, (by simp only [maxLen] at hm; omega), fun _ => ⟨a, rfl, fun j p hj => ?_⟩⟩, fun y hy => ?_⟩
  ·obtain ⟨_, cs', hK, hat⟩ := hr j p hj
   exact ⟨cs', d.K_len hK, hK, hat⟩
  ·obtain ⟨i, hi⟩ := List.getElem?_of_mem hy
   exact (hr i y hi).1
theorem struct_cells {fs : Array Field} {t : TypeId} {fuel : Nat} {cs : List Value} {x : DataW H × List MemPlace} (ht : P.underlying t = some (.struct fs)) (hone : oneCellFields P fs = true) (h : DataW.trod enc P w base spare held fuel t cs = some x) :
  cs.length = P.cellsOf t ∧ ∀ (i : Nat) (f : Field), fs[i]? = some f → i < cs.length → ∃ n y v, cs[i]? = some v ∧ DataW.trod enc P w base spare held n f.type [v] = some y := by
 obtain ⟨ys, n, _, _, hlen, hyl, hf⟩ := DataW.trod_struct ht h
 refine ⟨hlen, fun i f hi hlt => ?_⟩
 obtain ⟨ho, hk⟩ := hone_of hone i f hi
 have h1 := hf i f hi
 rw [ho, hk, List.drop_eq_getElem_cons hlt] at h1
 have hiy : i < ys.length := by rw [hyl]; exact (Array.getElem?_eq_some_iff.1 hi).1
 rw [List.getElem?_eq_getElem hiy] at h1
 exact ⟨n, _, cs[i], List.getElem?_eq_getElem hlt, h1⟩
end
def wfI (n : Int) : Prop := -9223372036854775808 ≤ n ∧ n ≤ 9223372036854775807
theorem wfI_of {n : Int} (h : (Lit.int .i64 n).wf = true) : wfI n := bounds_i64 h
section
variable {H : Type} {enc : TypeId × Value → H} {w : World} {base : Nat} {spare : Nat → Bool} {held : Bool}
theorem open_i {t : TypeId} {n : Nat} {v : Value} {y : DataW H × List MemPlace} (ht : Try.prog.underlying t = some (.int .i64)) (h : DataW.trod enc Try.prog w base spare held n t [v] = some y) : ∃ a : Int, v = .int .i64 a ∧ wfI a := by
 obtain ⟨a, e, w0⟩ := opens_int ht _ _ _ h
 have e' : [v] = [Value.int .i64 a] := e
 exact ⟨a, (by simpa using e'), wfI_of w0⟩
theorem opens_step : Opens enc Try.prog w base spare held k99 (fun s => wfI s.f0 ∧ wfI s.f1) 99 := by
 intro fuel cs x h
 obtain ⟨hl, hc⟩ := struct_cells Try.underlying99 m_19 h
 rw [show Try.prog.cellsOf 99 = 2 from by kernel_rfl] at hl
 match cs, hl with
 | [c0, c1], _ =>
  obtain ⟨n0, y0, v0, h0, t0⟩ := hc 0 _ rfl (by simp)
  obtain ⟨n1, y1, v1, h1, t1⟩ := hc 1 _ rfl (by simp)
  obtain rfl : c0 = v0 := by simpa using h0
  obtain rfl : c1 = v1 := by simpa using h1
  obtain ⟨a, rfl, w0⟩ := open_i m_19 t0
  obtain ⟨b, rfl, w1⟩ := open_i m_19 t1
  exact ⟨⟨a, b⟩, k99_mk w ⟨a, b⟩, w0, w1⟩
structure wfU (u : S24) : Prop where
 h0 : wfI u.f0
 h1 : wfI u.f1
 h2 : ∀ s ∈ u.f2, wfI s.f0 ∧ wfI s.f1
 h3 : wfI u.f3
 h4 : wfI u.f4
 h5 : wfI u.f5
 h6 : wfI u.f6
 h7 : wfI u.f7
 h8 : wfI u.f8
set_option maxRecDepth 100000 in
theorem opens_unit : Opens enc Try.prog w base spare held k24 wfU 24 := by
 intro fuel cs x h
 obtain ⟨hl, hc⟩ := struct_cells Try.underlying24 m_19 h
 rw [show Try.prog.cellsOf 24 = 9 from by kernel_rfl] at hl
 match cs, hl with
 | [c0, c1, c2, c3, c4, c5, c6, c7, c8], _ =>
  obtain ⟨n0, y0, v0, h0, t0⟩ := hc 0 _ rfl (by simp)
  obtain ⟨n1, y1, v1, h1, t1⟩ := hc 1 _ rfl (by simp)
  obtain ⟨n2, y2, v2, h2, t2⟩ := hc 2 _ rfl (by simp)
  obtain ⟨n3, y3, v3, h3, t3⟩ := hc 3 _ rfl (by simp)
  obtain ⟨n4, y4, v4, h4, t4⟩ := hc 4 _ rfl (by simp)
  obtain ⟨n5, y5, v5, h5, t5⟩ := hc 5 _ rfl (by simp)
  obtain ⟨n6, y6, v6, h6, t6⟩ := hc 6 _ rfl (by simp)
  obtain ⟨n7, y7, v7, h7, t7⟩ := hc 7 _ rfl (by simp)
  obtain ⟨n8, y8, v8, h8, t8⟩ := hc 8 _ rfl (by simp)
  obtain rfl : c0 = v0 := by simpa using h0
  obtain rfl : c1 = v1 := by simpa using h1
  obtain rfl : c2 = v2 := by simpa using h2
  obtain rfl : c3 = v3 := by simpa using h3
  obtain rfl : c4 = v4 := by simpa using h4
  obtain rfl : c5 = v5 := by simpa using h5
  obtain rfl : c6 = v6 := by simpa using h6
  obtain rfl : c7 = v7 := by simpa using h7
  obtain rfl : c8 = v8 := by simpa using h8
  obtain ⟨a0, rfl, w0⟩ := open_i m_19 t0
  obtain ⟨a1, rfl, w1⟩ := open_i m_19 t1
  obtain ⟨l, ⟨A, c, e, hlc, hC⟩, hq⟩ := opens_slice Try.underlying22 opens_step m_19 _ _ _ t2
  obtain rfl : c2 = .slice A l.length c := by simpa using e
  obtain ⟨a3, rfl, w3⟩ := open_i m_19 t3
  obtain ⟨a4, rfl, w4⟩ := open_i m_19 t4
  obtain ⟨a5, rfl, w5⟩ := open_i m_19 t5
  obtain ⟨a6, rfl, w6⟩ := open_i m_19 t6
  obtain ⟨a7, rfl, w7⟩ := open_i m_19 t7
  obtain ⟨a8, rfl, w8⟩ := open_i m_19 t8
  exact ⟨⟨a0, a1, l, a3, a4, a5, a6, a7, a8⟩, k24_mk w ⟨a0, a1, l, a3, a4, a5, a6, a7, a8⟩ hlc hC, ⟨w0, w1, hq, w3, w4, w5, w6, w7, w8⟩⟩
end
section
variable {H : Type} {enc : TypeId × Value → H} {P : Program} {w : World} {base : Nat} {spare : Nat → Bool} {held : Bool}
theorem arg_slice {α : Type} {dk : Kd α} {Q : α → Prop} {t te : TypeId} {r : Reach} {b0 : Nat} {v : Value} {d : DataW H} {p : List MemPlace} (ht : P.underlying t = some (.slice te)) (he : Opens enc P w base spare held dk Q te) (hC : P.cellsOf te = dk.sz)
  (hv : Value.okWide P w r b0 t v) (h : DataW.Trod enc P w base spare held t v d p) : ∃ (l : List α) (A : Option Addr) (c : Nat), v = .slice A l.length c ∧ l.length ≤ c ∧ Kd.C dk w A l.length l ∧ ∀ y ∈ l, Q y := by
 obtain ⟨a, len, cap, hv2⟩ := okWide_slice ht hv
 subst hv2
 obtain ⟨fuel, hf⟩ := h
 obtain ⟨l, ⟨A, c, e1, hlc, hC1⟩, hq⟩ := opens_slice ht he hC _ _ _ hf
 exact ⟨l, A, c, (by simpa [Value.cells] using e1), hlc, hC1, hq⟩
end
theorem EnergyOptimality_law (l0 : List S24) (l1 : List Bool) (l2 : List Int) (_ : ∀ y ∈ l0, wfU y) (_ : ∀ y ∈ l1, True) (_ : ∀ y ∈ l2, (Go.Lit.int .i64 y).wf = true) : ∃ k, pylonlaw28_EnergyOptimality.f k l0 l1 l2 = some true := (optimality_plain l0 l1 l2).some
end Go.Proofs.Ytelklgdmhnkenaa.U
namespace Go.Proofs.Ytelklgdmhnkenaa.energyOptimality
open Go.ChangeShapes Go.WideShapes Go.ChangeAt Go.RowKit Go.Proofs.Ytelklgdmhnkenaa.U Go.Proofs.YtelklgdmhnkenaaW.PrintWords
theorem own : ownKnob Try.prog.godebug = none := by kernel_rfl
theorem laidOut : laidOutB Try.prog = true := by kernel_rfl
set_option maxHeartbeats 2000000 in
set_option maxRecDepth 100000 in
theorem lifted (os : Os) (started : os.Started) (H : Type) (enc : TypeId × Value → H) :
  ReturnsInHanded {} Try.checked os 10 .any (Rows.energyOptimalitySpec.pre6 enc Try.prog Try.f10 Rows.energyOptimalityRow.domain false) (Rows.energyOptimalitySpec.post enc Try.prog Try.f10 false true false false) := by
 refine returnsInHanded_of_change_sized (C := Try.checked) own started m_19 Try.func10
  (ChangeSpec.witness6 (enc := enc) (C := Try.checked) false ⟨#[], #[.slice none 0 0, .slice none 0 0, .slice none 0 0], []⟩ 8 m_19 m_19 m_19 m_19) ?_
 intro W base args ds gs before hval0 hW hcnd hsz0 _
 have hval : ∀ (j : Nat) t v, Try.f10.params[j]? = some t → args[j]? = some v → Value.okWide Try.prog W .any base t v := hval0
 have hW' := hW
 obtain ⟨p, q, hA0, hV, rfl, hfz, hnd⟩ := hW
 have hA : DataW.TrodAll enc Try.prog W 0 (fun _ => true) true Try.f10.params.toList args.toList ds p := hA0
 rw [Try.params10] at hA hval
 obtain ⟨v0, vs0, d0, ds0, p0, q0, hargs, rfl, rfl, h0, r0⟩ := trodAll_cons hA
 obtain ⟨v1, vs1, d1, ds1, p1, q1, rfl, rfl, rfl, h1, r1⟩ := trodAll_cons r0
 obtain ⟨v2, vs2, d2, ds2, p2, q2, rfl, rfl, rfl, h2, r2⟩ := trodAll_cons r1
 obtain ⟨rfl, rfl, rfl⟩ := trodAll_nil r2
 obtain rfl : args = #[v0, v1, v2] := by cases args; simp_all
 obtain ⟨rfl, rfl⟩ := trodVars_none hV
 have k0 := h0
 have lt0 : ∀ x ∈ p0, x.block < W.heap.size := by obtain ⟨m, hm⟩ := k0; exact DataW.trod_lt m _ _ _ hm
 obtain ⟨l0, A0, c0, e0, hc0, hC0, hq0⟩ := arg_slice (te := 24) m_19 opens_unit m_19 (hval 0 45 v0 rfl rfl) h0
 subst e0
 have k1 := h1
 have lt1 : ∀ x ∈ p1, x.block < W.heap.size := by obtain ⟨m, hm⟩ := k1; exact DataW.trod_lt m _ _ _ hm
 obtain ⟨l1, A1, c1, e1, hc1, hC1, hq1⟩ := arg_slice (te := 4) m_19 (opens_bool (t := 4) m_19) m_19 (hval 1 32 v1 rfl rfl) h1
 subst e1
 have k2 := h2
 have lt2 : ∀ x ∈ p2, x.block < W.heap.size := by obtain ⟨m, hm⟩ := k2; exact DataW.trod_lt m _ _ _ hm
 obtain ⟨l2, A2, c2, e2, hc2, hC2, hq2⟩ := arg_slice (te := 2) m_19 (opens_int (t := 2) (k := .i64) m_19) m_19 (hval 2 46 v2 rfl rfl) h2
 subst e2
 clear hA0 hval0 hsz0
 obtain ⟨k, hk⟩ := EnergyOptimality_law l0 l1 l2 hq0 hq1 hq2
 refine (pylonlaw28_EnergyOptimality.calls k A0 c0 l0 A1 c1 l1 A2 c2 l2 true W hC0 hc0 hC1 hc1 hC2 hc2 hk).mono fun e W' ⟨he, bel⟩ => ?_
 subst he
 exact ⟨_, rfl, _, _, _, [], _, [], hW', trodAll_mk1 (shut_bool m_19 _), (trodAll_cons_mk (Below.trod laidOut m_19 (of_decide_eq_true m_19) k0 bel lt0) (trodAll_cons_mk (Below.trod laidOut m_19 (of_decide_eq_true m_19) k1 bel lt1) (trodAll_cons_mk (Below.trod laidOut m_19 (of_decide_eq_true m_19) k2 bel lt2) trodAll_mk0))), rfl, bel.frame _, fun h => by cases h⟩
theorem over : Rows.energyOptimalityRow.holds Try.pinned (OpenSpec.ofChange Rows.energyOptimalitySpec) :=
 OpenClaim.holds_of_wide 10 Try.f10 rfl rfl rfl rfl rfl rfl rfl ⟨rfl, rfl, rfl, rfl, rfl⟩ rfl rfl rfl rfl rfl m_19 Try.func10 m_19
  (of_decide_eq_true m_19) (by unfold Func.isWrapper; first | (rw [if_pos (by decide +kernel)]; kernel_rfl) | (rw [if_neg (by decide +kernel)]; exact ⟨rfl, rfl⟩))
  (fun os started H enc _ => lifted os started H enc)
end Go.Proofs.Ytelklgdmhnkenaa.energyOptimality
namespace Go.Proofs.Ytelklgdmhnkenaa
theorem energyOptimality_holds : Rows.EnergyOptimalitySaid := energyOptimality.over
#print axioms energyOptimality_holds
end Go.Proofs.Ytelklgdmhnkenaa
