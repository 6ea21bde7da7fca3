/- The checks of offer and bid curves (step.CheckOffer, step.CheckBid): what they answer, as plain Lean, and that the calls answer so. -/
import Derived.Test.YtelklgdmhnkenaaUx0
import Derived.Laws.EntriesVeiled
namespace Go.Proofs.Ytelklgdmhnkenaa.U
open Go.RowKit Go.Proofs.YtelklgdmhnkenaaW.PrintWords Go.Proofs.YtelklgdmhnkenaaW.PrintLast Go.Proofs.YtelklgdmhnkenaaW.PrintMore
set_option linter.unusedVariables false
set_option linter.unusedSimpArgs false

/-- May the price p follow the price a? -/
def afterB (up : Bool) (a p : Int) : Bool := if up then decide (a < p) else decide (p < a)
/-- Does the price p break the order, 'prev' being the price before? -/
def cutB (up : Bool) : Option Int → Int → Bool
  | none, _ => false
  | some a, p => !(afterB up a p)
/-- The error of the steps from one on, the price before being 'prev'. -/
def wrongFrom (up : Bool) : Option Int → List S99 → Int
  | _, [] => 0
  | prev, x :: l => if x.f0 < 1 ∨ 1000000 < x.f0 ∨ x.f1 < -1000000 ∨ 1000000 < x.f1 then 1
    else if cutB up prev x.f1 = true then 3 else wrongFrom up (some x.f1) l
def wrongF (up : Bool) (l : List S99) : Int := if l.length = 0 then 4 else if 3 < l.length then 5 else wrongFrom up none l
/-- The price before step k. -/
def prevAt (l : List S99) (k : Nat) : Option Int := if k = 0 then none else some (rd_T99 l ((k : Int) - 1)).f1
theorem rd99 (l : List S99) (k : Nat) (h : k < l.length) : rd_T99 l k = l[k] := by
  simp [rd_T99, h]
theorem prevAt_succ (l : List S99) (k : Nat) (h : k < l.length) : prevAt l (k + 1) = some (l[k]).f1 := by
  unfold prevAt
  rw [if_neg (by omega), show (((k + 1 : Nat) : Int) - 1) = (k : Int) from by omega, rd99 l k h]
theorem wrong_step (up : Bool) (l : List S99) (k : Nat) (h : k < l.length) :
    wrongFrom up (prevAt l k) (l.drop k) = if (rd_T99 l k).f0 < 1 ∨ 1000000 < (rd_T99 l k).f0 ∨ (rd_T99 l k).f1 < -1000000 ∨ 1000000 < (rd_T99 l k).f1 then 1
      else if cutB up (prevAt l k) (rd_T99 l k).f1 = true then 3 else wrongFrom up (prevAt l (k + 1)) (l.drop (k + 1)) := by
  rw [List.drop_eq_getElem_cons h, prevAt_succ l k h, rd99 l k h]
  rfl
theorem wrong_end (up : Bool) (l : List S99) (p : Option Int) (k : Nat) (h : l.length ≤ k) : wrongFrom up p (l.drop k) = 0 := by
  rw [List.drop_eq_nil_of_le h]
  rfl

theorem lit_up (a p : Int) (w : World) : Calls Try.prog 94 #[.int .i64 a, .int .i64 p] w fun e w' => e = .returned (.bool (afterB true a p)) ∧ w = w' := by
  go_enter Try.func94, Try.ntmps94
  go_wp2
  go_ret
  exact ⟨rfl, rfl⟩
theorem lit_down (a p : Int) (w : World) : Calls Try.prog 132 #[.int .i64 a, .int .i64 p] w fun e w' => e = .returned (.bool (afterB false a p)) ∧ w = w' := by
  go_enter Try.func132, Try.ntmps132
  go_wp2
  go_ret
  exact ⟨rfl, rfl⟩
theorem lit_up' (a p : Int) (b : Bool) (h : afterB true a p = b) (w : World) : Calls Try.prog 94 #[.int .i64 a, .int .i64 p] w fun e w' => e = .returned (.bool b) ∧ w = w' := by
  subst h
  exact lit_up a p w
theorem lit_down' (a p : Int) (b : Bool) (h : afterB false a p = b) (w : World) : Calls Try.prog 132 #[.int .i64 a, .int .i64 p] w fun e w' => e = .returned (.bool b) ∧ w = w' := by
  subst h
  exact lit_down a p w

set_option maxHeartbeats 4000000 in
set_option maxRecDepth 100000 in
theorem wrong_up (A0 : Option Addr) (c0 : Nat) (l0 : List S99) (w : World) (hr0 : Kd.C k99 w A0 l0.length l0) (hc0 : l0.length ≤ c0) :
    Calls Try.prog 75 #[.agg #[.func (.func 94) #[] #[]], .slice A0 l0.length c0] w fun e w' => e = .returned (.int .i64 (wrongF true l0)) ∧ Below w.heap.size w w' := by
  have hu99 := Try.underlying99
  have hu109 := Try.underlying109
  have HR0 := Aside0.mk hr0
  have HC0 := Aside0.mk hc0
  clear hr0 hc0
  by_cases h0 : l0.length = 0
  · obtain rfl : l0 = [] := List.eq_nil_of_length_eq_zero h0
    clear h0
    go_enter Try.func75, Try.ntmps75
    go_wp2_with fail
    go_ret
    exact ⟨rfl, (Below.refl _ _).alloc (Nat.le_refl _) _⟩
  · by_cases h3 : 3 < l0.length
    · have hF : Aside0 (wrongF true l0 = 5) := ⟨by unfold wrongF; rw [if_neg h0, if_pos h3]⟩
      have b0 : ((l0.length : Int) == 0) = false := by rw [beq_eq_false_iff_ne]; omega
      have b3 : decide ((3 : Int) < (l0.length : Int)) = true := by rw [decide_eq_true_iff]; omega
      have b3' : decide (3 < l0.length) = true := by rw [decide_eq_true_iff]; omega
      have b0' : (l0.length == 0) = false := by rw [beq_eq_false_iff_ne]; omega
      clear h0 h3
      go_enter Try.func75, Try.ntmps75
      go_wp2_with fail
      go_ret
      rw [hF.out]
      exact ⟨rfl, (Below.refl _ _).alloc (Nat.le_refl _) _⟩
    · have hF : Aside0 (wrongF true l0 = wrongFrom true (prevAt l0 0) (l0.drop 0)) := ⟨by unfold wrongF; rw [if_neg h0, if_neg h3]; rfl⟩
      have b0 : ((l0.length : Int) == 0) = false := by rw [beq_eq_false_iff_ne]; omega
      have b3 : decide ((3 : Int) < (l0.length : Int)) = false := by rw [decide_eq_false_iff_not]; omega
      have b3' : decide (3 < l0.length) = false := by rw [decide_eq_false_iff_not]; omega
      have b0' : (l0.length == 0) = false := by rw [beq_eq_false_iff_ne]; omega
      have hl3 : l0.length ≤ 3 := by omega
      clear h0 h3
      go_enter Try.func75, Try.ntmps75
      go_wp2_with (first | ((with_reducible refine gate_dst (N := 2) rfl ?_); refine box_event ?hg (N := 2) ?hd (cs := #[.func (.func 94) #[] #[]]) (t := 111) ?hr ?_; (case hd => rfl); (case hg => rfl); (case hr => first | (go_simp; done) | (go_simp; rfl)); intro gb hg w1 hbox hb; have HB := Aside0.mk hb; have BK := Aside0.mk hbox; have GE := Aside0.mk (Nat.le_of_eq hg.symm); clear hb hbox hg))
      go_loopw [17] (fun v17 wr => ∃ k : Nat, v17 = .int .i64 k ∧ Aside0 (k ≤ l0.length) ∧ Aside0 (wrongF true l0 = wrongFrom true (prevAt l0 k) (l0.drop k)) ∧ Aside0 (wr.heap[gb]? = some (.cells #[.func (.func 94) #[] #[]] 111 (0, 0))) ∧ Aside0 (Below w.heap.size w wr)) (fun v17 _ => l0.length - (intOf v17).toNat)
      case atStart => exact ⟨0, rfl, ⟨Nat.zero_le _⟩, hF, BK, HB⟩
      case round =>
        clear hF BK HB
        obtain ⟨k, rfl, HK, HF, BK, HB⟩ := hrel
        have hcf : wr.cell? ⟨gb, 0, none⟩ = some (.func (.func 94) #[] #[]) := (blk_cell BK.out 0).trans rfl
        by_cases hlt : k < l0.length
        · obtain ⟨ad, e, hx0, hx1⟩ := at_T99 HR0.out k (by omega) (by omega)
          cases e
          simp only [Int.toNat_natCast] at hx0 hx1
          replace hx0 := (HB.out.cell (World.block_lt_of_cell? w _ hx0)).trans hx0
          replace hx1 := (HB.out.cell (World.block_lt_of_cell? w _ hx1)).trans hx1
          have hs := wrong_step true l0 k hlt
          have HF' := Aside0.mk (HF.out.trans hs)
          clear hs HF
          generalize hq : (rd_T99 l0 k).f0 = q at *
          generalize hp : (rd_T99 l0 k).f1 = p at *
          have HP := Aside0.mk hp
          clear hq hp
          have q0 : (0 : Int) ≤ (k : Int) := by omega
          have q1 : (k : Int) < (l0.length : Int) := by omega
          by_cases t1 : q < 1
          · have hE : Aside0 (wrongF true l0 = 1) := ⟨by rw [HF'.out, if_pos (by omega)]⟩
            clear HF'
            go_wp2
            go_ret
            rw [hE.out]
            exact ⟨rfl, by repeat (first | exact HB.out | apply below_alloc | apply pw_below_drewN | apply below_drew1 | (refine Below.setCell ?_ ?_ _; rotate_left; exact HB.out.size))⟩
          · by_cases t2 : 1000000 < q
            · have hE : Aside0 (wrongF true l0 = 1) := ⟨by rw [HF'.out, if_pos (by omega)]⟩
              clear HF'
              go_wp2
              go_ret
              rw [hE.out]
              exact ⟨rfl, by repeat (first | exact HB.out | apply below_alloc | apply pw_below_drewN | apply below_drew1 | (refine Below.setCell ?_ ?_ _; rotate_left; exact HB.out.size))⟩
            · by_cases t3 : p < -1000000
              · have hE : Aside0 (wrongF true l0 = 1) := ⟨by rw [HF'.out, if_pos (by omega)]⟩
                clear HF'
                go_wp2
                go_ret
                rw [hE.out]
                exact ⟨rfl, by repeat (first | exact HB.out | apply below_alloc | apply pw_below_drewN | apply below_drew1 | (refine Below.setCell ?_ ?_ _; rotate_left; exact HB.out.size))⟩
              · by_cases t4 : 1000000 < p
                · have hE : Aside0 (wrongF true l0 = 1) := ⟨by rw [HF'.out, if_pos (by omega)]⟩
                  clear HF'
                  go_wp2
                  go_ret
                  rw [hE.out]
                  exact ⟨rfl, by repeat (first | exact HB.out | apply below_alloc | apply pw_below_drewN | apply below_drew1 | (refine Below.setCell ?_ ?_ _; rotate_left; exact HB.out.size))⟩
                · replace HF' := Aside0.mk (HF'.out.trans (if_neg (by omega)))
                  by_cases k0 : k = 0
                  · have HG : Aside0 (wrongF true l0 = wrongFrom true (prevAt l0 (k + 1)) (l0.drop (k + 1))) := ⟨by
                      rw [HF'.out, show prevAt l0 k = none by rw [k0]; rfl]; rfl⟩
                    have g0 : decide ((0 : Int) < (k : Int)) = false := by rw [decide_eq_false_iff_not]; omega
                    have g1 : decide (0 < k) = false := by rw [decide_eq_false_iff_not]; omega
                    clear HF' k0
                    go_wp2
                    go_quiet (fail)
                    go_wp2
                    go_roundw
                    case rel => exact ⟨k + 1, by go_num, ⟨by omega⟩, HG, ⟨by repeat (first | exact BK.out | refine blk_drewN ?_ _ | refine blk_alloc ?_ _ | refine blk_drew ?_)⟩, ⟨by repeat (first | exact HB.out | apply below_alloc | apply pw_below_drewN | apply below_drew1)⟩⟩
                    case measure => simp [intOf]; omega
                  · have e1 : (k : Int) - 1 = ((k - 1 : Nat) : Int) := by omega
                    obtain ⟨ad2, e, _, hy1⟩ := at_T99 HR0.out ((k - 1 : Nat) : Int) (by omega) (by omega)
                    cases e
                    simp only [Int.toNat_natCast] at hy1
                    replace hy1 := (HB.out.cell (World.block_lt_of_cell? w _ hy1)).trans hy1
                    have hpa : prevAt l0 k = some (rd_T99 l0 ((k - 1 : Nat) : Int)).f1 := by unfold prevAt; rw [if_neg k0, e1]
                    generalize (rd_T99 l0 ((k - 1 : Nat) : Int)).f1 = a at *
                    clear e1
                    have g0 : decide ((0 : Int) < (k : Int)) = true := by rw [decide_eq_true_iff]; omega
                    have g1 : decide (0 < k) = true := by rw [decide_eq_true_iff]; omega
                    have r0 : (0 : Int) ≤ (k : Int) - 1 := by omega
                    have r1 : (k : Int) - 1 < (l0.length : Int) := by omega
                    have HP2 := Aside0.mk hpa
                    have hcf2 : ∀ o, (wr.alloc o).cell? ⟨gb, 0, none⟩ = some (.func (.func 94) #[] #[]) := fun o => pw_cell_below (below_alloc (Below.refl _ _) o) hcf
                    have hy2 : ∀ o, (wr.alloc o).cell? ⟨(ad.add ((k - 1) * 2)).block, (ad.add ((k - 1) * 2)).off + 1, none⟩ = some (.int .i64 a) := fun o => pw_cell_below (below_alloc (Below.refl _ _) o) hy1
                    clear hpa k0
                    have HF3 := Aside0.mk (show wrongF true l0 = if (!(afterB true a p)) = true then 3 else wrongFrom true (prevAt l0 (k + 1)) (l0.drop (k + 1)) by rw [HF'.out, HP2.out]; rfl)
                    clear HF'
                    rcases hbb : afterB true a p with _ | _
                    · have HE : Aside0 (wrongF true l0 = 3) := ⟨by rw [HF3.out, hbb]; rfl⟩
                      have HC := Aside0.mk hbb
                      clear HF3 hbb
                      go_wp2
                      go_quiet ((go_at_call 94; exact Calls.quiet_of_same ((lit_up' a p false HC.out _).mono fun _ _ h => ⟨h.1, h.2.symm⟩)))
                      go_wp2
                      go_ret
                      rw [HE.out]
                      exact ⟨rfl, by repeat (first | exact HB.out | apply below_alloc | apply pw_below_drewN | apply below_drew1)⟩
                    · have HE : Aside0 (wrongF true l0 = wrongFrom true (prevAt l0 (k + 1)) (l0.drop (k + 1))) := ⟨by rw [HF3.out, hbb]; rfl⟩
                      have HC := Aside0.mk hbb
                      clear HF3 hbb
                      go_wp2
                      go_quiet ((go_at_call 94; exact Calls.quiet_of_same ((lit_up' a p true HC.out _).mono fun _ _ h => ⟨h.1, h.2.symm⟩)))
                      go_wp2
                      go_roundw
                      case rel => exact ⟨k + 1, by go_num, ⟨by omega⟩, HE, ⟨by repeat (first | exact BK.out | refine blk_drewN ?_ _ | refine blk_alloc ?_ _ | refine blk_drew ?_)⟩, ⟨by repeat (first | exact HB.out | apply below_alloc | apply pw_below_drewN | apply below_drew1)⟩⟩
                      case measure => simp [intOf]; omega
        · have HE : Aside0 (wrongF true l0 = 0) := ⟨HF.out.trans (wrong_end _ _ _ _ (by omega))⟩
          have q1 : ¬ (k : Int) < (l0.length : Int) := by omega
          clear HF
          go_wp2
          go_ret
          rw [HE.out]
          exact ⟨rfl, HB.out⟩
set_option maxHeartbeats 4000000 in
set_option maxRecDepth 100000 in
theorem wrong_down (A0 : Option Addr) (c0 : Nat) (l0 : List S99) (w : World) (hr0 : Kd.C k99 w A0 l0.length l0) (hc0 : l0.length ≤ c0) :
    Calls Try.prog 75 #[.agg #[.func (.func 132) #[] #[]], .slice A0 l0.length c0] w fun e w' => e = .returned (.int .i64 (wrongF false l0)) ∧ Below w.heap.size w w' := by
  have hu99 := Try.underlying99
  have hu109 := Try.underlying109
  have HR0 := Aside0.mk hr0
  have HC0 := Aside0.mk hc0
  clear hr0 hc0
  by_cases h0 : l0.length = 0
  · obtain rfl : l0 = [] := List.eq_nil_of_length_eq_zero h0
    clear h0
    go_enter Try.func75, Try.ntmps75
    go_wp2_with fail
    go_ret
    exact ⟨rfl, (Below.refl _ _).alloc (Nat.le_refl _) _⟩
  · by_cases h3 : 3 < l0.length
    · have hF : Aside0 (wrongF false l0 = 5) := ⟨by unfold wrongF; rw [if_neg h0, if_pos h3]⟩
      have b0 : ((l0.length : Int) == 0) = false := by rw [beq_eq_false_iff_ne]; omega
      have b3 : decide ((3 : Int) < (l0.length : Int)) = true := by rw [decide_eq_true_iff]; omega
      have b3' : decide (3 < l0.length) = true := by rw [decide_eq_true_iff]; omega
      have b0' : (l0.length == 0) = false := by rw [beq_eq_false_iff_ne]; omega
      clear h0 h3
      go_enter Try.func75, Try.ntmps75
      go_wp2_with fail
      go_ret
      rw [hF.out]
      exact ⟨rfl, (Below.refl _ _).alloc (Nat.le_refl _) _⟩
    · have hF : Aside0 (wrongF false l0 = wrongFrom false (prevAt l0 0) (l0.drop 0)) := ⟨by unfold wrongF; rw [if_neg h0, if_neg h3]; rfl⟩
      have b0 : ((l0.length : Int) == 0) = false := by rw [beq_eq_false_iff_ne]; omega
      have b3 : decide ((3 : Int) < (l0.length : Int)) = false := by rw [decide_eq_false_iff_not]; omega
      have b3' : decide (3 < l0.length) = false := by rw [decide_eq_false_iff_not]; omega
      have b0' : (l0.length == 0) = false := by rw [beq_eq_false_iff_ne]; omega
      have hl3 : l0.length ≤ 3 := by omega
      clear h0 h3
      go_enter Try.func75, Try.ntmps75
      go_wp2_with (first | ((with_reducible refine gate_dst (N := 2) rfl ?_); refine box_event ?hg (N := 2) ?hd (cs := #[.func (.func 132) #[] #[]]) (t := 111) ?hr ?_; (case hd => rfl); (case hg => rfl); (case hr => first | (go_simp; done) | (go_simp; rfl)); intro gb hg w1 hbox hb; have HB := Aside0.mk hb; have BK := Aside0.mk hbox; have GE := Aside0.mk (Nat.le_of_eq hg.symm); clear hb hbox hg))
      go_loopw [17] (fun v17 wr => ∃ k : Nat, v17 = .int .i64 k ∧ Aside0 (k ≤ l0.length) ∧ Aside0 (wrongF false l0 = wrongFrom false (prevAt l0 k) (l0.drop k)) ∧ Aside0 (wr.heap[gb]? = some (.cells #[.func (.func 132) #[] #[]] 111 (0, 0))) ∧ Aside0 (Below w.heap.size w wr)) (fun v17 _ => l0.length - (intOf v17).toNat)
      case atStart => exact ⟨0, rfl, ⟨Nat.zero_le _⟩, hF, BK, HB⟩
      case round =>
        clear hF BK HB
        obtain ⟨k, rfl, HK, HF, BK, HB⟩ := hrel
        have hcf : wr.cell? ⟨gb, 0, none⟩ = some (.func (.func 132) #[] #[]) := (blk_cell BK.out 0).trans rfl
        by_cases hlt : k < l0.length
        · obtain ⟨ad, e, hx0, hx1⟩ := at_T99 HR0.out k (by omega) (by omega)
          cases e
          simp only [Int.toNat_natCast] at hx0 hx1
          replace hx0 := (HB.out.cell (World.block_lt_of_cell? w _ hx0)).trans hx0
          replace hx1 := (HB.out.cell (World.block_lt_of_cell? w _ hx1)).trans hx1
          have hs := wrong_step false l0 k hlt
          have HF' := Aside0.mk (HF.out.trans hs)
          clear hs HF
          generalize hq : (rd_T99 l0 k).f0 = q at *
          generalize hp : (rd_T99 l0 k).f1 = p at *
          have HP := Aside0.mk hp
          clear hq hp
          have q0 : (0 : Int) ≤ (k : Int) := by omega
          have q1 : (k : Int) < (l0.length : Int) := by omega
          by_cases t1 : q < 1
          · have hE : Aside0 (wrongF false l0 = 1) := ⟨by rw [HF'.out, if_pos (by omega)]⟩
            clear HF'
            go_wp2
            go_ret
            rw [hE.out]
            exact ⟨rfl, by repeat (first | exact HB.out | apply below_alloc | apply pw_below_drewN | apply below_drew1 | (refine Below.setCell ?_ ?_ _; rotate_left; exact HB.out.size))⟩
          · by_cases t2 : 1000000 < q
            · have hE : Aside0 (wrongF false l0 = 1) := ⟨by rw [HF'.out, if_pos (by omega)]⟩
              clear HF'
              go_wp2
              go_ret
              rw [hE.out]
              exact ⟨rfl, by repeat (first | exact HB.out | apply below_alloc | apply pw_below_drewN | apply below_drew1 | (refine Below.setCell ?_ ?_ _; rotate_left; exact HB.out.size))⟩
            · by_cases t3 : p < -1000000
              · have hE : Aside0 (wrongF false l0 = 1) := ⟨by rw [HF'.out, if_pos (by omega)]⟩
                clear HF'
                go_wp2
                go_ret
                rw [hE.out]
                exact ⟨rfl, by repeat (first | exact HB.out | apply below_alloc | apply pw_below_drewN | apply below_drew1 | (refine Below.setCell ?_ ?_ _; rotate_left; exact HB.out.size))⟩
              · by_cases t4 : 1000000 < p
                · have hE : Aside0 (wrongF false l0 = 1) := ⟨by rw [HF'.out, if_pos (by omega)]⟩
                  clear HF'
                  go_wp2
                  go_ret
                  rw [hE.out]
                  exact ⟨rfl, by repeat (first | exact HB.out | apply below_alloc | apply pw_below_drewN | apply below_drew1 | (refine Below.setCell ?_ ?_ _; rotate_left; exact HB.out.size))⟩
                · replace HF' := Aside0.mk (HF'.out.trans (if_neg (by omega)))
                  by_cases k0 : k = 0
                  · have HG : Aside0 (wrongF false l0 = wrongFrom false (prevAt l0 (k + 1)) (l0.drop (k + 1))) := ⟨by
                      rw [HF'.out, show prevAt l0 k = none by rw [k0]; rfl]; rfl⟩
                    have g0 : decide ((0 : Int) < (k : Int)) = false := by rw [decide_eq_false_iff_not]; omega
                    have g1 : decide (0 < k) = false := by rw [decide_eq_false_iff_not]; omega
                    clear HF' k0
                    go_wp2
                    go_quiet (fail)
                    go_wp2
                    go_roundw
                    case rel => exact ⟨k + 1, by go_num, ⟨by omega⟩, HG, ⟨by repeat (first | exact BK.out | refine blk_drewN ?_ _ | refine blk_alloc ?_ _ | refine blk_drew ?_)⟩, ⟨by repeat (first | exact HB.out | apply below_alloc | apply pw_below_drewN | apply below_drew1)⟩⟩
                    case measure => simp [intOf]; omega
                  · have e1 : (k : Int) - 1 = ((k - 1 : Nat) : Int) := by omega
                    obtain ⟨ad2, e, _, hy1⟩ := at_T99 HR0.out ((k - 1 : Nat) : Int) (by omega) (by omega)
                    cases e
                    simp only [Int.toNat_natCast] at hy1
                    replace hy1 := (HB.out.cell (World.block_lt_of_cell? w _ hy1)).trans hy1
                    have hpa : prevAt l0 k = some (rd_T99 l0 ((k - 1 : Nat) : Int)).f1 := by unfold prevAt; rw [if_neg k0, e1]
                    generalize (rd_T99 l0 ((k - 1 : Nat) : Int)).f1 = a at *
                    clear e1
                    have g0 : decide ((0 : Int) < (k : Int)) = true := by rw [decide_eq_true_iff]; omega
                    have g1 : decide (0 < k) = true := by rw [decide_eq_true_iff]; omega
                    have r0 : (0 : Int) ≤ (k : Int) - 1 := by omega
                    have r1 : (k : Int) - 1 < (l0.length : Int) := by omega
                    have HP2 := Aside0.mk hpa
                    have hcf2 : ∀ o, (wr.alloc o).cell? ⟨gb, 0, none⟩ = some (.func (.func 132) #[] #[]) := fun o => pw_cell_below (below_alloc (Below.refl _ _) o) hcf
                    have hy2 : ∀ o, (wr.alloc o).cell? ⟨(ad.add ((k - 1) * 2)).block, (ad.add ((k - 1) * 2)).off + 1, none⟩ = some (.int .i64 a) := fun o => pw_cell_below (below_alloc (Below.refl _ _) o) hy1
                    clear hpa k0
                    have HF3 := Aside0.mk (show wrongF false l0 = if (!(afterB false a p)) = true then 3 else wrongFrom false (prevAt l0 (k + 1)) (l0.drop (k + 1)) by rw [HF'.out, HP2.out]; rfl)
                    clear HF'
                    rcases hbb : afterB false a p with _ | _
                    · have HE : Aside0 (wrongF false l0 = 3) := ⟨by rw [HF3.out, hbb]; rfl⟩
                      have HC := Aside0.mk hbb
                      clear HF3 hbb
                      go_wp2
                      go_quiet ((go_at_call 132; exact Calls.quiet_of_same ((lit_down' a p false HC.out _).mono fun _ _ h => ⟨h.1, h.2.symm⟩)))
                      go_wp2
                      go_ret
                      rw [HE.out]
                      exact ⟨rfl, by repeat (first | exact HB.out | apply below_alloc | apply pw_below_drewN | apply below_drew1)⟩
                    · have HE : Aside0 (wrongF false l0 = wrongFrom false (prevAt l0 (k + 1)) (l0.drop (k + 1))) := ⟨by rw [HF3.out, hbb]; rfl⟩
                      have HC := Aside0.mk hbb
                      clear HF3 hbb
                      go_wp2
                      go_quiet ((go_at_call 132; exact Calls.quiet_of_same ((lit_down' a p true HC.out _).mono fun _ _ h => ⟨h.1, h.2.symm⟩)))
                      go_wp2
                      go_roundw
                      case rel => exact ⟨k + 1, by go_num, ⟨by omega⟩, HE, ⟨by repeat (first | exact BK.out | refine blk_drewN ?_ _ | refine blk_alloc ?_ _ | refine blk_drew ?_)⟩, ⟨by repeat (first | exact HB.out | apply below_alloc | apply pw_below_drewN | apply below_drew1)⟩⟩
                      case measure => simp [intOf]; omega
        · have HE : Aside0 (wrongF false l0 = 0) := ⟨HF.out.trans (wrong_end _ _ _ _ (by omega))⟩
          have q1 : ¬ (k : Int) < (l0.length : Int) := by omega
          clear HF
          go_wp2
          go_ret
          rw [HE.out]
          exact ⟨rfl, HB.out⟩

set_option maxHeartbeats 1000000 in
theorem rising_calls (w : World) : Calls Try.prog 74 #[] w fun e w' => e = .returned (.agg #[.func (.func 94) #[] #[]]) ∧ Below w.heap.size w w' := by
  go_enter Try.func74, Try.ntmps74
  go_wp2
  exact bodyPost_ret (v := .agg #[.func (.func 94) #[] #[]]) (by simp [results, Try.results74, go_sem]) rfl ⟨rfl, (Below.refl _ _).alloc (Nat.le_refl _) _⟩
theorem checkOffer (A0 : Option Addr) (c0 : Nat) (l0 : List S99) (w : World) (hr0 : Kd.C k99 w A0 l0.length l0) (hc0 : l0.length ≤ c0) :
    Calls Try.prog 57 #[.slice A0 l0.length c0] w fun e w' => e = .returned (.int .i64 (wrongF true l0)) ∧ Below w.heap.size w w' := by
  have HR0 := Aside0.mk hr0
  have HC0 := Aside0.mk hc0
  clear hr0 hc0
  go_enter Try.func57, Try.ntmps57
  go_wp2_with fail
  refine (rising_calls _).mono ?_
  rintro e w1 ⟨rfl, hb1⟩
  go_wp2_with fail
  refine (wrong_up A0 c0 l0 _ ?_ HC0.out).mono ?_
  · exact Kd.C_below HR0.out hb1
  rintro e w2 ⟨rfl, hb2⟩
  go_wp2_with fail
  go_ret
  exact ⟨rfl, below_step hb1 hb2⟩
set_option maxHeartbeats 1000000 in
theorem falling_calls (w : World) : Calls Try.prog 119 #[] w fun e w' => e = .returned (.agg #[.func (.func 132) #[] #[]]) ∧ Below w.heap.size w w' := by
  go_enter Try.func119, Try.ntmps119
  go_wp2
  exact bodyPost_ret (v := .agg #[.func (.func 132) #[] #[]]) (by simp [results, Try.results119, go_sem]) rfl ⟨rfl, (Below.refl _ _).alloc (Nat.le_refl _) _⟩
theorem checkBid (A0 : Option Addr) (c0 : Nat) (l0 : List S99) (w : World) (hr0 : Kd.C k99 w A0 l0.length l0) (hc0 : l0.length ≤ c0) :
    Calls Try.prog 95 #[.slice A0 l0.length c0] w fun e w' => e = .returned (.int .i64 (wrongF false l0)) ∧ Below w.heap.size w w' := by
  have HR0 := Aside0.mk hr0
  have HC0 := Aside0.mk hc0
  clear hr0 hc0
  go_enter Try.func95, Try.ntmps95
  go_wp2_with fail
  refine (falling_calls _).mono ?_
  rintro e w1 ⟨rfl, hb1⟩
  go_wp2_with fail
  refine (wrong_down A0 c0 l0 _ ?_ HC0.out).mono ?_
  · exact Kd.C_below HR0.out hb1
  rintro e w2 ⟨rfl, hb2⟩
  go_wp2_with fail
  go_ret
  exact ⟨rfl, below_step hb1 hb2⟩

def step_CheckOffer.f (l0 : List S99) : Option Int := some (wrongF true l0)
theorem step_CheckOffer.calls (A0 : Option Addr) (c0 : Nat) (l0 : List S99) (r : Int) (w : World) (hr0 : Kd.C k99 w A0 l0.length l0) (hc0 : l0.length ≤ c0) (h : step_CheckOffer.f l0 = some r) :
    Calls Try.prog 57 #[.slice A0 l0.length c0] w fun e w' => e = .returned (.int .i64 r) ∧ Below w.heap.size w w' := by
  obtain rfl := Option.some.inj h
  exact checkOffer A0 c0 l0 w hr0 hc0
def step_CheckBid.f (l0 : List S99) : Option Int := some (wrongF false l0)
theorem step_CheckBid.calls (A0 : Option Addr) (c0 : Nat) (l0 : List S99) (r : Int) (w : World) (hr0 : Kd.C k99 w A0 l0.length l0) (hc0 : l0.length ≤ c0) (h : step_CheckBid.f l0 = some r) :
    Calls Try.prog 95 #[.slice A0 l0.length c0] w fun e w' => e = .returned (.int .i64 r) ∧ Below w.heap.size w w' := by
  obtain rfl := Option.some.inj h
  exact checkBid A0 c0 l0 w hr0 hc0
end Go.Proofs.Ytelklgdmhnkenaa.U
