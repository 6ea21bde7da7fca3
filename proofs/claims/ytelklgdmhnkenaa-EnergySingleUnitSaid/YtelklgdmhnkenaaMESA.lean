/- Parts of the proof: Ux0, GivenBy, GivenPk, GivenA, Uxf76, Uxf59, GivenFq, Uxf88, Uxf81, Uxf63, Uxf96, GivenN, Uxf105, UxK82, GivenZ, GivenV, GivenX, GivenY, GivenU, GivenQ, GivenW, Uxf99, Uxf101, Uxf83, Uxf106, Uxf84. -/
import Derived.Test.YtelklgdmhnkenaaProg
import Derived.Below
import Derived.Deep.Draws
import Derived.Deep.AppendLies
import Derived.Maps.AppendAt
import Derived.OwnWalk
import Derived.Laws.BytesArg
import Derived.Laws.MakeOwn
import Derived.Laws.OwnMore
import Derived.Deep.OwnRows
import Derived.Tactics
import Derived.Lib.ConvBytes
import Derived.Laws.Slices
import Derived.WalkKit
import Derived.KernelRfl
import Derived.RowKit3
import Derived.Deep.LoopGhost
import Derived.Deep.QuietTactic
import Derived.BigQuiet
import Derived.WideLaws
import Derived.Deep.DeepCutAuto
import Derived.Deep.CutBlock
import Derived.Deep.RegionHeld3
import Derived.Laws.Rows
import Derived.Lib.AppendStr
import Derived.ArgAppend
import Derived.Laws.IdiomCopy
import Derived.OrdersHeld
import Derived.Laws.BitsLemmas
import Derived.RowKit
import Derived.Test.YtelklgdmhnkenaaMESWA
import Derived.Laws.EntriesVeiled
import Derived.WalkSpells
import Derived.RangeFuncNested
import Derived.RangeFuncBound
import Derived.RangeFuncBox
import Derived.RangeFuncCalls
import Derived.RangeFuncLeaves
import Derived.Shelf.Abstract
import Derived.Shelf.RegionOpen
import Derived.OwnWalkIn
import Derived.TacticsInMore
import Derived.LoopNIn
import Derived.LoopIn
set_option linter.unusedVariables false
set_option linter.unusedSimpArgs false
open Go.RowKit Go.Proofs.YtelklgdmhnkenaaW.PrintWords Go.Proofs.YtelklgdmhnkenaaW.PrintLast Go.Proofs.YtelklgdmhnkenaaW.PrintMore
namespace Go.Proofs.Ytelklgdmhnkenaa.U
attribute [local go_sem] max2_int min2_int max_two min_two max_three min_three max_four min_four
def errW : Option Int → Value
 | none => .nilIface
 | some c => .iface 0 (.int .i64 c)
theorem errW_none : errW none = .nilIface := rfl
theorem errW_some (c : Int) : errW (some c) = .iface 0 (.int .i64 c) := rfl
theorem info117 : (Try.prog.info? 117).map (fun i => (i.zero, i.size, i.bytes)) = some (some (.int .u32 0), 1, 4) := by kernel_rfl
structure S99 where
 f0 : Int
 f1 : Int
def z99 : S99 := ⟨(0 : Int), (0 : Int)⟩
def k99 : Kd S99 := Kd.iso (Kd.pair (Kd.int .i64) (Kd.int .i64)) (fun x : S99 => (x.f0, x.f1))
theorem k99_heap : Kd.Heap k99 := Kd.heap_iso _ (Kd.heap_pair (Kd.heap_int .i64) (Kd.heap_int .i64))
theorem k99_open {w : World} {x : S99} {cs : List Value} (h : k99.K w x cs) : cs = [.int .i64 x.f0, .int .i64 x.f1] := by
 obtain ⟨_, _, rfl, rfl, rfl⟩ := h
 exact rfl
theorem k99_mk (w : World) (x : S99)  : k99.K w x [.int .i64 x.f0, .int .i64 x.f1] := ⟨[.int .i64 x.f0], [.int .i64 x.f1], rfl, rfl, rfl⟩
def rd_T99 (xs : List S99) (i : Int) : S99 := xs.getD i.toNat z99
theorem at_T99 {w : World} {A : Option Addr} {n : Nat} {xs : List S99} (h : Kd.C k99 w A n xs) (i : Int) (h0 : 0 ≤ i) (h1 : i < n) : ∃ ad , A = some ad ∧ w.cell? (ad.add (i.toNat * 2)) = some (.int .i64 (rd_T99 xs i).f0) ∧ w.cell? ⟨(ad.add (i.toNat * 2)).block, (ad.add (i.toNat * 2)).off + 1, none⟩ = some (.int .i64 (rd_T99 xs i).f1) := by
 obtain ⟨ad, c, e, _, hK, hc0⟩ := Kd.C_get h z99 i h0 h1
 have hc : ∀ j u, c[j]? = some u → w.cell? (ad.add (i.toNat * 2 + j)) = some u := hc0
 obtain rfl := k99_open hK
 exact ⟨ad, e, hc 0 _ rfl, (by rw [← add_field _ _ 1 (by omega)]; exact hc 1 _ rfl)⟩
structure S24 where
 f0 : Int
 f1 : Int
 f2 : (List S99)
 f3 : Int
 f4 : Int
 f5 : Int
 f6 : Int
 f7 : Int
 f8 : Int
def z24 : S24 := ⟨(0 : Int), (0 : Int), ([] : List S99), (0 : Int), (0 : Int), (0 : Int), (0 : Int), (0 : Int), (0 : Int)⟩
def k24 : Kd S24 := Kd.iso (Kd.pair (Kd.int .i64) (Kd.pair (Kd.int .i64) (Kd.pair (Kd.slice 99 k99) (Kd.pair (Kd.int .i64) (Kd.pair (Kd.int .i64) (Kd.pair (Kd.int .i64) (Kd.pair (Kd.int .i64) (Kd.pair (Kd.int .i64) (Kd.int .i64))))))))) (fun x : S24 => (x.f0, x.f1, x.f2, x.f3, x.f4, x.f5, x.f6, x.f7, x.f8))
theorem k24_open {w : World} {x : S24} {cs : List Value} (h : k24.K w x cs) : ∃ A2 c2, cs = [.int .i64 x.f0, .int .i64 x.f1, .slice A2 x.f2.length c2, .int .i64 x.f3, .int .i64 x.f4, .int .i64 x.f5, .int .i64 x.f6, .int .i64 x.f7, .int .i64 x.f8] ∧ x.f2.length ≤ c2 ∧ k99.C w A2 x.f2.length x.f2 := by
 obtain ⟨_, _, rfl, rfl, ⟨_, _, rfl, rfl, ⟨_, _, rfl, ⟨A2, c2, rfl, l2, g2⟩, ⟨_, _, rfl, rfl, ⟨_, _, rfl, rfl, ⟨_, _, rfl, rfl, ⟨_, _, rfl, rfl, ⟨_, _, rfl, rfl, rfl⟩⟩⟩⟩⟩⟩⟩⟩ := h
 exact ⟨A2, c2, rfl, l2, g2⟩
theorem k24_mk (w : World) (x : S24) {A2 : Option Addr} {c2 : Nat} (l2 : x.f2.length ≤ c2) (g2 : k99.C w A2 x.f2.length x.f2) : k24.K w x [.int .i64 x.f0, .int .i64 x.f1, .slice A2 x.f2.length c2, .int .i64 x.f3, .int .i64 x.f4, .int .i64 x.f5, .int .i64 x.f6, .int .i64 x.f7, .int .i64 x.f8] := ⟨[.int .i64 x.f0], [.int .i64 x.f1, .slice A2 x.f2.length c2, .int .i64 x.f3, .int .i64 x.f4, .int .i64 x.f5, .int .i64 x.f6, .int .i64 x.f7, .int .i64 x.f8], rfl, rfl, ⟨[.int .i64 x.f1], [.slice A2 x.f2.length c2, .int .i64 x.f3, .int .i64 x.f4, .int .i64 x.f5, .int .i64 x.f6, .int .i64 x.f7, .int .i64 x.f8], rfl, rfl, ⟨[.slice A2 x.f2.length c2], [.int .i64 x.f3, .int .i64 x.f4, .int .i64 x.f5, .int .i64 x.f6, .int .i64 x.f7, .int .i64 x.f8], rfl, ⟨A2, c2, rfl, l2, g2⟩, ⟨[.int .i64 x.f3], [.int .i64 x.f4, .int .i64 x.f5, .int .i64 x.f6, .int .i64 x.f7, .int .i64 x.f8], rfl, rfl, ⟨[.int .i64 x.f4], [.int .i64 x.f5, .int .i64 x.f6, .int .i64 x.f7, .int .i64 x.f8], rfl, rfl, ⟨[.int .i64 x.f5], [.int .i64 x.f6, .int .i64 x.f7, .int .i64 x.f8], rfl, rfl, ⟨[.int .i64 x.f6], [.int .i64 x.f7, .int .i64 x.f8], rfl, rfl, ⟨[.int .i64 x.f7], [.int .i64 x.f8], rfl, rfl, rfl⟩⟩⟩⟩⟩⟩⟩⟩
theorem k24_mkF (W : World) (ok : Nat → Prop) (x : S24) {A2 : Option Addr} {c2 : Nat} (l2 : x.f2.length ≤ c2) (g2 : Kd.F k99 W ok A2 x.f2.length x.f2) : Kd.FK k24 W ok x [.int .i64 x.f0, .int .i64 x.f1, .slice A2 x.f2.length c2, .int .i64 x.f3, .int .i64 x.f4, .int .i64 x.f5, .int .i64 x.f6, .int .i64 x.f7, .int .i64 x.f8] := fun W2 hW => k24_mk W2 x l2 (g2 W2 hW)
def rd_T24 (xs : List S24) (i : Int) : S24 := xs.getD i.toNat z24
theorem at_T24 {w : World} {A : Option Addr} {n : Nat} {xs : List S24} (h : Kd.C k24 w A n xs) (i : Int) (h0 : 0 ≤ i) (h1 : i < n) : ∃ ad A2 c2, A = some ad ∧ w.cell? (ad.add (i.toNat * 9)) = some (.int .i64 (rd_T24 xs i).f0) ∧ w.cell? ⟨(ad.add (i.toNat * 9)).block, (ad.add (i.toNat * 9)).off + 1, none⟩ = some (.int .i64 (rd_T24 xs i).f1) ∧ w.cell? ⟨(ad.add (i.toNat * 9)).block, (ad.add (i.toNat * 9)).off + 2, none⟩ = some (.slice A2 (rd_T24 xs i).f2.length c2) ∧ w.cell? ⟨(ad.add (i.toNat * 9)).block, (ad.add (i.toNat * 9)).off + 3, none⟩ = some (.int .i64 (rd_T24 xs i).f3) ∧ w.cell? ⟨(ad.add (i.toNat * 9)).block, (ad.add (i.toNat * 9)).off + 4, none⟩ = some (.int .i64 (rd_T24 xs i).f4) ∧ w.cell? ⟨(ad.add (i.toNat * 9)).block, (ad.add (i.toNat * 9)).off + 5, none⟩ = some (.int .i64 (rd_T24 xs i).f5) ∧ w.cell? ⟨(ad.add (i.toNat * 9)).block, (ad.add (i.toNat * 9)).off + 6, none⟩ = some (.int .i64 (rd_T24 xs i).f6) ∧ w.cell? ⟨(ad.add (i.toNat * 9)).block, (ad.add (i.toNat * 9)).off + 7, none⟩ = some (.int .i64 (rd_T24 xs i).f7) ∧ w.cell? ⟨(ad.add (i.toNat * 9)).block, (ad.add (i.toNat * 9)).off + 8, none⟩ = some (.int .i64 (rd_T24 xs i).f8) ∧ (rd_T24 xs i).f2.length ≤ c2 ∧ k99.C w A2 (rd_T24 xs i).f2.length (rd_T24 xs i).f2 := by
 obtain ⟨ad, c, e, _, hK, hc0⟩ := Kd.C_get h z24 i h0 h1
 have hc : ∀ j u, c[j]? = some u → w.cell? (ad.add (i.toNat * 9 + j)) = some u := hc0
 obtain ⟨A2, c2, rfl, l2, g2⟩ := k24_open hK
 exact ⟨ad, A2, c2, e, hc 0 _ rfl, (by rw [← add_field _ _ 1 (by omega)]; exact hc 1 _ rfl), (by rw [← add_field _ _ 2 (by omega)]; exact hc 2 _ rfl), (by rw [← add_field _ _ 3 (by omega)]; exact hc 3 _ rfl), (by rw [← add_field _ _ 4 (by omega)]; exact hc 4 _ rfl), (by rw [← add_field _ _ 5 (by omega)]; exact hc 5 _ rfl), (by rw [← add_field _ _ 6 (by omega)]; exact hc 6 _ rfl), (by rw [← add_field _ _ 7 (by omega)]; exact hc 7 _ rfl), (by rw [← add_field _ _ 8 (by omega)]; exact hc 8 _ rfl), l2, g2⟩
structure S64 where
 f0 : Bool
 f1 : (List Int)
def z64 : S64 := ⟨false, ([] : List Int)⟩
def k64 : Kd S64 := Kd.iso (Kd.pair Kd.bool (Kd.slice 117 (Kd.int .u32))) (fun x : S64 => (x.f0, x.f1))
theorem k64_open {w : World} {x : S64} {cs : List Value} (h : k64.K w x cs) : ∃ A1 c1, cs = [.bool x.f0, .slice A1 x.f1.length c1] ∧ x.f1.length ≤ c1 ∧ (Kd.int .u32).C w A1 x.f1.length x.f1 := by
 obtain ⟨_, _, rfl, rfl, ⟨A1, c1, rfl, l1, g1⟩⟩ := h
 exact ⟨A1, c1, rfl, l1, g1⟩
theorem k64_mk (w : World) (x : S64) {A1 : Option Addr} {c1 : Nat} (l1 : x.f1.length ≤ c1) (g1 : (Kd.int .u32).C w A1 x.f1.length x.f1) : k64.K w x [.bool x.f0, .slice A1 x.f1.length c1] := ⟨[.bool x.f0], [.slice A1 x.f1.length c1], rfl, rfl, ⟨A1, c1, rfl, l1, g1⟩⟩
structure S66 where
 f0 : S64
 f1 : S64
def z66 : S66 := ⟨z64, z64⟩
def k66 : Kd S66 := Kd.iso (Kd.pair k64 k64) (fun x : S66 => (x.f0, x.f1))
theorem k66_open {w : World} {x : S66} {cs : List Value} (h : k66.K w x cs) : ∃ A1 c1 A3 c3, cs = [.bool x.f0.f0, .slice A1 x.f0.f1.length c1, .bool x.f1.f0, .slice A3 x.f1.f1.length c3] ∧ x.f0.f1.length ≤ c1 ∧ (Kd.int .u32).C w A1 x.f0.f1.length x.f0.f1 ∧ x.f1.f1.length ≤ c3 ∧ (Kd.int .u32).C w A3 x.f1.f1.length x.f1.f1 := by
 obtain ⟨_, _, rfl, s0, s2⟩ := h
 obtain ⟨A1, c1, rfl, l1, g1⟩ := k64_open s0
 obtain ⟨A3, c3, rfl, l3, g3⟩ := k64_open s2
 exact ⟨A1, c1, A3, c3, rfl, l1, g1, l3, g3⟩
theorem k66_mk (w : World) (x : S66) {A1 : Option Addr} {c1 : Nat} (l1 : x.f0.f1.length ≤ c1) (g1 : (Kd.int .u32).C w A1 x.f0.f1.length x.f0.f1) {A3 : Option Addr} {c3 : Nat} (l3 : x.f1.f1.length ≤ c3) (g3 : (Kd.int .u32).C w A3 x.f1.f1.length x.f1.f1) : k66.K w x [.bool x.f0.f0, .slice A1 x.f0.f1.length c1, .bool x.f1.f0, .slice A3 x.f1.f1.length c3] := ⟨[.bool x.f0.f0, .slice A1 x.f0.f1.length c1], [.bool x.f1.f0, .slice A3 x.f1.f1.length c3], rfl, (k64_mk w x.f0 l1 g1), (k64_mk w x.f1 l3 g3)⟩
theorem k66_openF {W : World} {ok : Nat → Prop} {x : S66} {cs : List Value} (h : Kd.FK k66 W ok x cs) : ∃ A1 c1 A3 c3, cs = [.bool x.f0.f0, .slice A1 x.f0.f1.length c1, .bool x.f1.f0, .slice A3 x.f1.f1.length c3] ∧ x.f0.f1.length ≤ c1 ∧ Kd.F (Kd.int .u32) W ok A1 x.f0.f1.length x.f0.f1 ∧ x.f1.f1.length ≤ c3 ∧ Kd.F (Kd.int .u32) W ok A3 x.f1.f1.length x.f1.f1 := by
 obtain ⟨A1, c1, A3, c3, rfl, l1, _, l3, _⟩ := k66_open (Kd.FK_now h)
 exact ⟨A1, c1, A3, c3, rfl, l1, (fun W' hW => by obtain ⟨A1_, c1_, A3_, c3_, he, l1_, g1_, l3_, g3_⟩ := k66_open (h W' hW); injection (Option.some.inj (show some (Value.slice A1 x.f0.f1.length c1) = some (Value.slice A1_ x.f0.f1.length c1_) from congrArg (fun l => l[1]?) he)) with ha_ _ _; rw [ha_]; exact g1_), l3, (fun W' hW => by obtain ⟨A1_, c1_, A3_, c3_, he, l1_, g1_, l3_, g3_⟩ := k66_open (h W' hW); injection (Option.some.inj (show some (Value.slice A3 x.f1.f1.length c3) = some (Value.slice A3_ x.f1.f1.length c3_) from congrArg (fun l => l[3]?) he)) with ha_ _ _; rw [ha_]; exact g3_)⟩
theorem k66_mkF (W : World) (ok : Nat → Prop) (x : S66) {A1 : Option Addr} {c1 : Nat} (l1 : x.f0.f1.length ≤ c1) (g1 : Kd.F (Kd.int .u32) W ok A1 x.f0.f1.length x.f0.f1) {A3 : Option Addr} {c3 : Nat} (l3 : x.f1.f1.length ≤ c3) (g3 : Kd.F (Kd.int .u32) W ok A3 x.f1.f1.length x.f1.f1) : Kd.FK k66 W ok x [.bool x.f0.f0, .slice A1 x.f0.f1.length c1, .bool x.f1.f0, .slice A3 x.f1.f1.length c3] := fun W2 hW => k66_mk W2 x l1 (g1 W2 hW) l3 (g3 W2 hW)
def rd_T66 (xs : List S66) (i : Int) : S66 := xs.getD i.toNat z66
theorem at_T66 {w : World} {A : Option Addr} {n : Nat} {xs : List S66} (h : Kd.C k66 w A n xs) (i : Int) (h0 : 0 ≤ i) (h1 : i < n) : ∃ ad A1 c1 A3 c3, A = some ad ∧ w.cell? (ad.add (i.toNat * 4)) = some (.bool (rd_T66 xs i).f0.f0) ∧ w.cell? ⟨(ad.add (i.toNat * 4)).block, (ad.add (i.toNat * 4)).off + 1, none⟩ = some (.slice A1 (rd_T66 xs i).f0.f1.length c1) ∧ w.cell? ⟨(ad.add (i.toNat * 4)).block, (ad.add (i.toNat * 4)).off + 2, none⟩ = some (.bool (rd_T66 xs i).f1.f0) ∧ w.cell? ⟨(ad.add (i.toNat * 4)).block, (ad.add (i.toNat * 4)).off + 3, none⟩ = some (.slice A3 (rd_T66 xs i).f1.f1.length c3) ∧ (rd_T66 xs i).f0.f1.length ≤ c1 ∧ (Kd.int .u32).C w A1 (rd_T66 xs i).f0.f1.length (rd_T66 xs i).f0.f1 ∧ (rd_T66 xs i).f1.f1.length ≤ c3 ∧ (Kd.int .u32).C w A3 (rd_T66 xs i).f1.f1.length (rd_T66 xs i).f1.f1 := by
 obtain ⟨ad, c, e, _, hK, hc0⟩ := Kd.C_get h z66 i h0 h1
 have hc : ∀ j u, c[j]? = some u → w.cell? (ad.add (i.toNat * 4 + j)) = some u := hc0
 obtain ⟨A1, c1, A3, c3, rfl, l1, g1, l3, g3⟩ := k66_open hK
 exact ⟨ad, A1, c1, A3, c3, e, hc 0 _ rfl, (by rw [← add_field _ _ 1 (by omega)]; exact hc 1 _ rfl), (by rw [← add_field _ _ 2 (by omega)]; exact hc 2 _ rfl), (by rw [← add_field _ _ 3 (by omega)]; exact hc 3 _ rfl), l1, g1, l3, g3⟩
end Go.Proofs.Ytelklgdmhnkenaa.U
/- Short names for proofs that return in the printed texts. -/
namespace Go.Proofs.Ytelklgdmhnkenaa.U
theorem bA_ {w w' : World} {g : Nat} {o : Obj} (hq : w.heap[g]? = some o) (s : w.heap[g]? = some o → w'.heap[g]? = some o := by intro hx_; (with_reducible repeat (first | refine blk_drewN ?_ _ | refine blk_drew ?_ | refine blk_alloc ?_ _)); exact hx_) : w'.heap[g]? = some o := s hq
theorem vA_ {p q : Prop} (hq : q) (s : q → p := by intro hx_; (with_reducible repeat (first | apply Kd.V_alloc | apply Kd.V_drewN | apply Kd.V_drew)); exact hx_) : p := s hq
theorem rA_ {p q : Prop} (hq : q) (s : q → p := by intro hx_; (with_reducible repeat (first | apply Kd.R_alloc | apply Kd.R_drewN | apply Kd.R_drew)); exact hx_) : p := s hq
theorem cA_ {p q : Prop} (hq : q) (s : q → p := by intro hx_; repeat (first | exact hx_ | (with_reducible refine Kd.C_alloc ?_ _) | (with_reducible refine Kd.C_drewN ?_ _) | (with_reducible refine Kd.C_drew ?_))) : p := s hq
theorem hr_ {p : Prop} (h : p := by first | (go_simp; done) | (go_simp; rfl)) : p := h
theorem vE_ {α : Type} {d : Kd α} {e : TypeId} {W w1 : World} {base : Nat} {ok : Nat → Prop} {v : Value} {xs : List α} {q : Prop} (hq : Aside0 q) {a : Nat} (hg : a = W.heap.size) (hb : Below W.heap.size W w1) (s : q → Kd.V d e W base ok v xs := by intro hx_; (with_reducible repeat (first | apply Kd.V_alloc | apply Kd.V_drewN | apply Kd.V_drew)); exact hx_) : Aside0 (Kd.V d e w1 base (fun k => ok k ∧ k ≠ a) v xs) := ⟨Kd.V_below (Kd.V_elderB (s hq.out) a (Nat.le_of_eq hg.symm)) hb⟩
theorem vB_ {α : Type} {d : Kd α} {e : TypeId} {W w1 : World} {base : Nat} {ok : Nat → Prop} {v : Value} {xs : List α} {q : Prop} (hq : Aside0 q) (hb : Below W.heap.size W w1) (s : q → Kd.V d e W base ok v xs := by intro hx_; (with_reducible repeat (first | apply Kd.V_alloc | apply Kd.V_drewN | apply Kd.V_drew)); exact hx_) : Aside0 (Kd.V d e w1 base ok v xs) := ⟨Kd.V_below (s hq.out) hb⟩
theorem rB_ {α : Type} {d : Kd α} {e : TypeId} {W w1 : World} {base : Nat} {ok : Nat → Prop} {v : Value} {xs : List α} {q : Prop} (hq : Aside0 q) (hb : Below W.heap.size W w1) (s : q → Kd.R d e W base ok v xs := by intro hx_; (with_reducible repeat (first | apply Kd.R_alloc | apply Kd.R_drewN | apply Kd.R_drew)); exact hx_) : Aside0 (Kd.R d e w1 base ok v xs) := ⟨Kd.R_below (s hq.out) hb⟩
theorem vD_ {α : Type} {d : Kd α} {e : TypeId} {W : World} {base : Nat} {ok : Nat → Prop} {v : Value} {xs : List α} (hq : Aside0 (Kd.V d e W base ok v xs)) : Aside0 (Kd.V d e W.drew base ok v xs) := ⟨Kd.V_drew hq.out⟩
theorem bD_ {w : World} {g : Nat} {o : Obj} (hq : Aside0 (w.heap[g]? = some o)) : Aside0 (w.drew.heap[g]? = some o) := ⟨blk_drew hq.out⟩
theorem bB_ {w W w1 : World} {g : Nat} {o : Obj} (hq : Aside0 (w.heap[g]? = some o)) (hb : Below W.heap.size W w1) (s : w.heap[g]? = some o → W.heap[g]? = some o := by intro hx_; (with_reducible repeat (first | refine blk_drewN ?_ _ | refine blk_drew ?_ | refine blk_alloc ?_ _)); exact hx_) : Aside0 (w1.heap[g]? = some o) := ⟨blk_below (s hq.out) hb⟩
theorem nl_ {w W : World} {g : Nat} {o : Obj} (hq : Aside0 (w.heap[g]? = some o)) {a : Nat} (hg : a = W.heap.size) (s : w.heap[g]? = some o → W.heap[g]? = some o := by intro hx_; (with_reducible repeat (first | refine blk_drewN ?_ _ | refine blk_drew ?_ | refine blk_alloc ?_ _)); exact hx_) : Aside0 (g ≠ a) := ⟨by rw [hg]; exact Nat.ne_of_lt (blk_lt (s hq.out))⟩
theorem ng_ {w W : World} {g : Nat} {o : Obj} (hq : Aside0 (w.heap[g]? = some o)) {a : Nat} (hg : a = W.heap.size) (s : w.heap[g]? = some o → W.heap[g]? = some o := by intro hx_; (with_reducible repeat (first | refine blk_drewN ?_ _ | refine blk_drew ?_ | refine blk_alloc ?_ _)); exact hx_) : Aside0 (a ≠ g) := ⟨by rw [hg]; exact Nat.ne_of_gt (blk_lt (s hq.out))⟩
theorem gW_ {w W : World} {a : Nat} (hg : a = W.heap.size) (h : Below w.heap.size w W) : Aside0 (w.heap.size ≤ a) := ⟨by rw [hg]; exact below_size h⟩
theorem mv_ {w W : World} {p : Addr} {v : Value} (hb : Aside0 (Below w.heap.size w W)) (h : w.cell? p = some v) : W.cell? p = some v := (hb.out.cell (World.block_lt_of_cell? w _ h)).trans h
theorem cf2_ {w : World} {g : Nat} {t : TypeId} {v0 v1 : Value} (h : Aside0 (w.heap[g]? = some (.cells #[v0, v1] t (0, 0)))) : w.cell? ⟨g, 0, none⟩ = some v0 ∧ w.cell? ⟨g, 1, none⟩ = some v1 ∧ w.frozen? ⟨g, 0, none⟩ = false ∧ w.frozen? ⟨g, 1, none⟩ = false := ⟨(blk_cell h.out 0).trans rfl, (blk_cell h.out 1).trans rfl, blk_frozen h.out 0, blk_frozen h.out 1⟩
theorem cf4_ {w : World} {g : Nat} {t : TypeId} {v0 v1 v2 v3 : Value} (h : Aside0 (w.heap[g]? = some (.cells #[v0, v1, v2, v3] t (0, 0)))) : w.cell? ⟨g, 0, none⟩ = some v0 ∧ w.cell? ⟨g, 1, none⟩ = some v1 ∧ w.cell? ⟨g, 2, none⟩ = some v2 ∧ w.cell? ⟨g, 3, none⟩ = some v3 ∧ w.frozen? ⟨g, 0, none⟩ = false ∧ w.frozen? ⟨g, 1, none⟩ = false ∧ w.frozen? ⟨g, 2, none⟩ = false ∧ w.frozen? ⟨g, 3, none⟩ = false := ⟨(blk_cell h.out 0).trans rfl, (blk_cell h.out 1).trans rfl, (blk_cell h.out 2).trans rfl, (blk_cell h.out 3).trans rfl, blk_frozen h.out 0, blk_frozen h.out 1, blk_frozen h.out 2, blk_frozen h.out 3⟩
theorem cf9_ {w : World} {g : Nat} {t : TypeId} {v0 v1 v2 v3 v4 v5 v6 v7 v8 : Value} (h : Aside0 (w.heap[g]? = some (.cells #[v0, v1, v2, v3, v4, v5, v6, v7, v8] t (0, 0)))) : w.cell? ⟨g, 0, none⟩ = some v0 ∧ w.cell? ⟨g, 1, none⟩ = some v1 ∧ w.cell? ⟨g, 2, none⟩ = some v2 ∧ w.cell? ⟨g, 3, none⟩ = some v3 ∧ w.cell? ⟨g, 4, none⟩ = some v4 ∧ w.cell? ⟨g, 5, none⟩ = some v5 ∧ w.cell? ⟨g, 6, none⟩ = some v6 ∧ w.cell? ⟨g, 7, none⟩ = some v7 ∧ w.cell? ⟨g, 8, none⟩ = some v8 ∧ w.frozen? ⟨g, 0, none⟩ = false ∧ w.frozen? ⟨g, 1, none⟩ = false ∧ w.frozen? ⟨g, 2, none⟩ = false ∧ w.frozen? ⟨g, 3, none⟩ = false ∧ w.frozen? ⟨g, 4, none⟩ = false ∧ w.frozen? ⟨g, 5, none⟩ = false ∧ w.frozen? ⟨g, 6, none⟩ = false ∧ w.frozen? ⟨g, 7, none⟩ = false ∧ w.frozen? ⟨g, 8, none⟩ = false := ⟨(blk_cell h.out 0).trans rfl, (blk_cell h.out 1).trans rfl, (blk_cell h.out 2).trans rfl, (blk_cell h.out 3).trans rfl, (blk_cell h.out 4).trans rfl, (blk_cell h.out 5).trans rfl, (blk_cell h.out 6).trans rfl, (blk_cell h.out 7).trans rfl, (blk_cell h.out 8).trans rfl, blk_frozen h.out 0, blk_frozen h.out 1, blk_frozen h.out 2, blk_frozen h.out 3, blk_frozen h.out 4, blk_frozen h.out 5, blk_frozen h.out 6, blk_frozen h.out 7, blk_frozen h.out 8⟩
theorem m_1 {p : Prop} (h : p := by repeat (first | (with_reducible first | exact HB.out | apply below_alloc | apply pw_below_drewN | apply below_drew1) | exact HB.out)) : p := h
theorem m_2 {p : Prop} (h : p := by (try simp only [List.map_toArray, List.map_cons, List.map_nil]); first | done | rfl | (simp only [List.length_drop, List.length_take]; rfl)) : p := h
theorem m_3 {p : Prop} (h : p := by repeat (first | (with_reducible first | exact HB.out | apply below_alloc | apply pw_below_drewN | apply below_drew1 | refine below_set ?_ GE947.out) | exact HB.out)) : p := h
theorem m_4 {p : Prop} (h : p := by first | (with_reducible assumption) | assumption) : p := h
theorem m_5 {p : Prop} (h : p := by first | rfl | (simp [errW_none, errW_some] <;> rfl) | (simp [*, errW_none, errW_some] <;> rfl)) : p := h
theorem m_6 {p : Prop} (h : p := by repeat (first | (with_reducible first | exact HB.out | apply below_alloc | apply pw_below_drewN | apply below_drew1 | refine below_set ?_ GE403.out | refine below_set ?_ GE404.out | refine below_set ?_ GE405.out) | exact HB.out)) : p := h
theorem m_7 {p : Prop} (h : p := by repeat (first | (with_reducible first | exact HB.out | apply below_alloc | apply pw_below_drewN | apply below_drew1 | refine below_set ?_ GE947.out | refine below_set ?_ GE981.out) | exact HB.out)) : p := h
theorem m_8 {p : Prop} (h : p := by repeat (first | (with_reducible first | exact HB.out | apply below_alloc | apply pw_below_drewN | apply below_drew1 | refine below_set ?_ GE594.out | refine below_set ?_ GE595.out | refine below_set ?_ GE596.out | refine below_set ?_ GE597.out) | exact HB.out)) : p := h
theorem m_9 {p : Prop} (h : p := by first | rfl | (simp; done) | (simp [*]; done)) : p := h
theorem m_10 {p : Prop} (h : p := by repeat (first | (with_reducible first | exact HB.out | apply below_alloc | apply pw_below_drewN | apply below_drew1 | refine below_set ?_ GE572.out | refine below_set ?_ GE573.out | refine below_set ?_ GE574.out) | exact HB.out)) : p := h
theorem m_11 {p : Prop} (h : p := by repeat (first | (with_reducible first | exact HB.out | apply below_alloc | apply pw_below_drewN | apply below_drew1 | refine below_set ?_ GE649.out | refine below_set ?_ GE650.out | refine below_set ?_ GE663.out | refine below_set ?_ GE665.out) | exact HB.out)) : p := h
theorem m_12 {p : Prop} (h : p := by first | (simp only [putAll, Act.put, List.setIfInBounds_toArray, List.set_cons_zero, List.set_cons_succ]; done) | (simp only [putAll, Act.put, List.setIfInBounds_toArray, List.set_cons_zero, List.set_cons_succ]; rfl)) : p := h
theorem m_13 {p : Prop} (h : p := by kernel_rfl) : p := h
theorem m_14 {p : Prop} (h : p := by (with_reducible repeat (first | apply Kd.N_alloc | apply Kd.N_drewN | apply Kd.N_drew)); exact HO956.out) : p := h
theorem m_16 {p : Prop} (h : p := by repeat (first | (with_reducible first | exact HB.out | apply below_alloc | apply pw_below_drewN | apply below_drew1 | refine below_set ?_ GE605.out | refine below_set ?_ GE622.out) | exact HB.out)) : p := h
theorem m_17 {p : Prop} (h : p := by repeat (first | (with_reducible first | exact HB.out | apply below_alloc | apply pw_below_drewN | apply below_drew1 | refine below_set ?_ GE110.out) | exact HB.out)) : p := h
theorem m_18 {p : Prop} (h : p := by repeat (first | (with_reducible first | exact HB.out | apply below_alloc | apply pw_below_drewN | apply below_drew1 | refine below_set ?_ GE646.out | refine below_set ?_ GE647.out | refine below_set ?_ GE648.out) | exact HB.out)) : p := h
theorem m_19 {p : Prop} (h : p := by repeat (first | (with_reducible first | exact HB.out | apply below_alloc | apply pw_below_drewN | apply below_drew1 | refine below_set ?_ GE605.out) | exact HB.out)) : p := h
theorem m_20 {p : Prop} (h : p := by repeat (first | (with_reducible first | exact HB.out | apply below_alloc | apply pw_below_drewN | apply below_drew1 | refine below_set ?_ GE456.out | refine below_set ?_ GE457.out | refine below_set ?_ GE458.out) | exact HB.out)) : p := h
theorem m_21 {p : Prop} (h : p := by repeat (first | (with_reducible first | exact HB.out | apply below_alloc | apply pw_below_drewN | apply below_drew1 | refine below_set ?_ GE192.out | refine below_set ?_ GE193.out | refine below_set ?_ GE194.out) | exact HB.out)) : p := h
theorem m_22 {p : Prop} (h : p := by repeat (first | (with_reducible first | exact HB.out | apply below_alloc | apply pw_below_drewN | apply below_drew1 | refine below_set ?_ GE166.out | refine below_set ?_ GE167.out | refine below_set ?_ GE168.out) | exact HB.out)) : p := h
theorem m_23 {p : Prop} (h : p := by (try simp only [List.map_toArray, List.map_cons, List.map_nil]); first | done | rfl) : p := h
theorem m_24 {p : Prop} (h : p := by repeat (first | (with_reducible first | exact HB.out | apply below_alloc | apply pw_below_drewN | apply below_drew1 | refine below_set ?_ GE355.out) | exact HB.out)) : p := h
theorem m_25 {p : Prop} (h : p := by repeat (first | (with_reducible first | exact HB.out | apply below_alloc | apply pw_below_drewN | apply below_drew1 | refine below_set ?_ GE594.out | refine below_set ?_ GE595.out | refine below_set ?_ GE600.out | refine below_set ?_ GE610.out | refine below_set ?_ GE611.out) | exact HB.out)) : p := h
theorem m_26 {p : Prop} (h : p := by repeat (first | (with_reducible first | exact HB.out | apply below_alloc | apply pw_below_drewN | apply below_drew1 | refine below_set ?_ GE649.out | refine below_set ?_ GE650.out) | exact HB.out)) : p := h
theorem m_27 {p : Prop} (h : p := by repeat (first | (with_reducible first | exact HB.out | apply below_alloc | apply pw_below_drewN | apply below_drew1 | refine below_set ?_ GE628.out | refine below_set ?_ GE629.out) | exact HB.out)) : p := h
theorem m_28 {p : Prop} (h : p := by repeat (first | exact Drawn0.refl _ | apply Drawn0.step)) : p := h
theorem m_29 {p : Prop} (h : p := by repeat (first | (with_reducible first | exact HB.out | apply below_alloc | apply pw_below_drewN | apply below_drew1 | refine below_set ?_ GE375.out) | exact HB.out)) : p := h
theorem m_30 {p : Prop} (h : p := by repeat (first | (with_reducible first | exact HB.out | apply below_alloc | apply pw_below_drewN | apply below_drew1 | refine below_set ?_ GE594.out | refine below_set ?_ GE595.out | refine below_set ?_ GE600.out | refine below_set ?_ GE610.out | refine below_set ?_ GE611.out | refine below_set ?_ GE621.out | refine below_set ?_ GE622.out) | exact HB.out)) : p := h
theorem m_31 {p : Prop} (h : p := by repeat (first | (with_reducible first | exact HB.out | apply below_alloc | apply pw_below_drewN | apply below_drew1 | refine below_set ?_ GE594.out | refine below_set ?_ GE595.out | refine below_set ?_ GE600.out) | exact HB.out)) : p := h
theorem m_32 {p : Prop} (h : p := by repeat (first | (with_reducible first | exact HB.out | apply below_alloc | apply pw_below_drewN | apply below_drew1 | refine below_set ?_ GE594.out | refine below_set ?_ GE595.out) | exact HB.out)) : p := h
theorem m_33 {p : Prop} (h : p := by repeat (first | (with_reducible first | exact HB.out | apply below_alloc | apply pw_below_drewN | apply below_drew1 | refine below_set ?_ GE472.out | refine below_set ?_ GE473.out | refine below_set ?_ GE490.out | refine below_set ?_ GE491.out) | exact HB.out)) : p := h
theorem m_34 {p : Prop} (h : p := by have := World.block_lt_of_cell? _ _ hx724_0; first | rwa [add_block] at this | exact this) : p := h
theorem m_36 {p : Prop} (h : p := by (with_reducible repeat (first | refine blk_drewN ?_ _ | refine blk_drew ?_ | refine blk_alloc ?_ _)); refine blk_put (cs := #[.bool t605, .slice none 0 0]) ?_ 1 _ rfl; (with_reducible repeat (first | refine blk_drewN ?_ _ | refine blk_drew ?_ | refine blk_alloc ?_ _)); refine blk_put (cs := #[.bool false, .slice none 0 0]) ?_ 0 _ rfl; (with_reducible repeat (first | refine blk_drewN ?_ _ | refine blk_drew ?_ | refine blk_alloc ?_ _)); refine blk_far ?_ NB611_610.out _; (with_reducible repeat (first | refine blk_drewN ?_ _ | refine blk_drew ?_ | refine blk_alloc ?_ _)); refine blk_far ?_ NB611_610.out _; (with_reducible repeat (first | refine blk_drewN ?_ _ | refine blk_drew ?_ | refine blk_alloc ?_ _)); exact BK611.out) : p := h
theorem m_37 {p : Prop} (h : p := by (with_reducible repeat (first | refine blk_drewN ?_ _ | refine blk_drew ?_ | refine blk_alloc ?_ _)); refine blk_far ?_ NB610_611.out _; (with_reducible repeat (first | refine blk_drewN ?_ _ | refine blk_drew ?_ | refine blk_alloc ?_ _)); refine blk_far ?_ NB610_611.out _; (with_reducible repeat (first | refine blk_drewN ?_ _ | refine blk_drew ?_ | refine blk_alloc ?_ _)); refine blk_put (cs := #[.bool t601, .slice none 0 0]) ?_ 1 _ rfl; (with_reducible repeat (first | refine blk_drewN ?_ _ | refine blk_drew ?_ | refine blk_alloc ?_ _)); refine blk_put (cs := #[.bool false, .slice none 0 0]) ?_ 0 _ rfl; (with_reducible repeat (first | refine blk_drewN ?_ _ | refine blk_drew ?_ | refine blk_alloc ?_ _)); exact BK610.out) : p := h
theorem m_38 {p : Prop} (h : p := by repeat (first | (with_reducible first | exact HB.out | apply below_alloc | apply pw_below_drewN | apply below_drew1 | refine below_set ?_ GE211.out | refine below_set ?_ GE212.out | refine below_set ?_ GE213.out) | exact HB.out)) : p := h
theorem m_39 {p : Prop} (h : p := by (with_reducible repeat (first | refine blk_drewN ?_ _ | refine blk_drew ?_ | refine blk_alloc ?_ _)); refine blk_far ?_ NB600_611.out _; (with_reducible repeat (first | refine blk_drewN ?_ _ | refine blk_drew ?_ | refine blk_alloc ?_ _)); refine blk_far ?_ NB600_611.out _; (with_reducible repeat (first | refine blk_drewN ?_ _ | refine blk_drew ?_ | refine blk_alloc ?_ _)); refine blk_far ?_ NB600_610.out _; (with_reducible repeat (first | refine blk_drewN ?_ _ | refine blk_drew ?_ | refine blk_alloc ?_ _)); refine blk_far ?_ NB600_610.out _; (with_reducible repeat (first | refine blk_drewN ?_ _ | refine blk_drew ?_ | refine blk_alloc ?_ _)); exact BK600.out) : p := h
theorem m_40 {p : Prop} (h : p := by (with_reducible repeat (first | refine blk_drewN ?_ _ | refine blk_drew ?_ | refine blk_alloc ?_ _)); refine blk_far ?_ NB595_611.out _; (with_reducible repeat (first | refine blk_drewN ?_ _ | refine blk_drew ?_ | refine blk_alloc ?_ _)); refine blk_far ?_ NB595_611.out _; (with_reducible repeat (first | refine blk_drewN ?_ _ | refine blk_drew ?_ | refine blk_alloc ?_ _)); refine blk_far ?_ NB595_610.out _; (with_reducible repeat (first | refine blk_drewN ?_ _ | refine blk_drew ?_ | refine blk_alloc ?_ _)); refine blk_far ?_ NB595_610.out _; (with_reducible repeat (first | refine blk_drewN ?_ _ | refine blk_drew ?_ | refine blk_alloc ?_ _)); exact BK595.out) : p := h
theorem m_41 {p : Prop} (h : p := by (with_reducible repeat (first | refine blk_drewN ?_ _ | refine blk_drew ?_ | refine blk_alloc ?_ _)); refine blk_far ?_ NB594_611.out _; (with_reducible repeat (first | refine blk_drewN ?_ _ | refine blk_drew ?_ | refine blk_alloc ?_ _)); refine blk_far ?_ NB594_611.out _; (with_reducible repeat (first | refine blk_drewN ?_ _ | refine blk_drew ?_ | refine blk_alloc ?_ _)); refine blk_far ?_ NB594_610.out _; (with_reducible repeat (first | refine blk_drewN ?_ _ | refine blk_drew ?_ | refine blk_alloc ?_ _)); refine blk_far ?_ NB594_610.out _; (with_reducible repeat (first | refine blk_drewN ?_ _ | refine blk_drew ?_ | refine blk_alloc ?_ _)); exact BK594.out) : p := h
theorem m_42 {p : Prop} (h : p := by repeat (first | (with_reducible first | exact HB.out | apply below_alloc | apply pw_below_drewN | apply below_drew1 | refine below_set ?_ GE351.out) | exact HB.out)) : p := h
theorem m_43 {p : Prop} (h : p := by repeat (first | (with_reducible first | exact HB.out | apply below_alloc | apply pw_below_drewN | apply below_drew1 | refine below_set ?_ GE732.out | refine below_set ?_ GE733.out | refine below_set ?_ GE734.out) | exact HB.out)) : p := h
theorem m_44 {p : Prop} (h : p := by repeat (first | (with_reducible first | exact HB.out | apply below_alloc | apply pw_below_drewN | apply below_drew1 | refine below_set ?_ GE721.out | refine below_set ?_ GE722.out | refine below_set ?_ GE723.out) | exact HB.out)) : p := h
theorem m_45 {p : Prop} (h : p := by repeat (first | (with_reducible first | exact HB.out | apply below_alloc | apply pw_below_drewN | apply below_drew1 | refine below_set ?_ GE666.out | refine below_set ?_ GE667.out | refine below_set ?_ GE668.out) | exact HB.out)) : p := h
theorem m_46 {p : Prop} (h : p := by repeat (first | exact HB.out | apply below_alloc | apply pw_below_drewN | apply below_drew1 | (refine Below.setCell ?_ ?_ _; rotate_left; exact HB.out.size))) : p := h
theorem m_47 {p : Prop} (h : p := by (with_reducible repeat (first | refine blk_drewN ?_ _ | refine blk_drew ?_ | refine blk_alloc ?_ _)); refine blk_put (cs := #[.bool sr, .slice Aa4 lr.length ca4, .bool false, .slice none 0 0]) ?_ 3 _ rfl; refine blk_put (cs := #[.bool sr, .slice Aa4 lr.length ca4, .bool false, .slice none 0 0]) ?_ 2 _ rfl; refine blk_put (cs := #[.bool sr, .slice none 0 0, .bool false, .slice none 0 0]) ?_ 1 _ rfl; refine blk_put (cs := #[.bool false, .slice none 0 0, .bool false, .slice none 0 0]) ?_ 0 _ rfl; exact BB3.out) : p := h
theorem m_48 {p : Prop} (h : p := by repeat (first | (with_reducible first | exact HB.out | apply below_alloc | apply pw_below_drewN | apply below_drew1 | refine below_set ?_ GE501.out) | exact HB.out)) : p := h
theorem m_49 {p : Prop} (h : p := by repeat (first | (with_reducible first | exact HB.out | apply below_alloc | apply pw_below_drewN | apply below_drew1 | refine below_set ?_ GE646.out | refine below_set ?_ GE647.out) | exact HB.out)) : p := h
theorem m_50 {p : Prop} (h : p := by repeat (first | (with_reducible first | exact HB.out | apply below_alloc | apply pw_below_drewN | apply below_drew1 | refine below_set ?_ GE441.out | refine below_set ?_ GE442.out) | exact HB.out)) : p := h
theorem m_51 {p : Prop} (h : p := by (with_reducible repeat (first | apply Kd.N_alloc | apply Kd.N_drewN | apply Kd.N_drew)); exact HO_22.out) : p := h
theorem m_52 {p : Prop} (h : p := by (with_reducible repeat (first | apply Kd.N_alloc | apply Kd.N_drewN | apply Kd.N_drew)); exact HO_7.out) : p := h
theorem m_53 {p : Prop} (h : p := by repeat (first | (with_reducible first | exact HB.out | apply below_alloc | apply pw_below_drewN | apply below_drew1 | refine below_set ?_ GE649.out | refine below_set ?_ GE650.out | refine below_set ?_ GE663.out) | exact HB.out)) : p := h
theorem m_54 {p : Prop} (h : p := by (with_reducible repeat (first | refine blk_drewN ?_ _ | refine blk_drew ?_ | refine blk_alloc ?_ _)); refine blk_put (cs := #[.bool t596, .slice none 0 0]) ?_ 1 _ rfl; (with_reducible repeat (first | refine blk_drewN ?_ _ | refine blk_drew ?_ | refine blk_alloc ?_ _)); refine blk_put (cs := #[.bool false, .slice none 0 0]) ?_ 0 _ rfl; (with_reducible repeat (first | refine blk_drewN ?_ _ | refine blk_drew ?_ | refine blk_alloc ?_ _)); exact BK600.out) : p := h
theorem m_55 {p : Prop} (h : p := by repeat (first | (with_reducible first | exact HB.out | apply below_alloc | apply pw_below_drewN | apply below_drew1 | refine below_set ?_ GE646.out) | exact HB.out)) : p := h
theorem m_56 {p : Prop} (h : p := by repeat (first | (with_reducible first | exact HB.out | apply below_alloc | apply pw_below_drewN | apply below_drew1 | refine below_set ?_ GE594.out) | exact HB.out)) : p := h
theorem m_57 {p : Prop} (h : p := by repeat (first | (with_reducible first | exact HB.out | apply below_alloc | apply pw_below_drewN | apply below_drew1 | refine below_set ?_ GE343.out) | exact HB.out)) : p := h
theorem m_58 {p : Prop} (h : p := by (with_reducible repeat (first | refine blk_drewN ?_ _ | refine blk_drew ?_ | refine blk_alloc ?_ _)); exact BK110.out) : p := h
theorem m_59 {p : Prop} (h : p := by repeat (first | (with_reducible first | exact HB.out | apply below_alloc | apply pw_below_drewN | apply below_drew1 | refine below_set ?_ GE388.out | refine below_set ?_ GE389.out) | exact HB.out)) : p := h
theorem m_60 {p : Prop} (h : p := by (with_reducible repeat (first | refine blk_drewN ?_ _ | refine blk_drew ?_ | refine blk_alloc ?_ _)); refine blk_far ?_ NB595_600.out _; (with_reducible repeat (first | refine blk_drewN ?_ _ | refine blk_drew ?_ | refine blk_alloc ?_ _)); refine blk_far ?_ NB595_600.out _; (with_reducible repeat (first | refine blk_drewN ?_ _ | refine blk_drew ?_ | refine blk_alloc ?_ _)); exact BK595.out) : p := h
theorem m_61 {p : Prop} (h : p := by (with_reducible repeat (first | refine blk_drewN ?_ _ | refine blk_drew ?_ | refine blk_alloc ?_ _)); refine blk_far ?_ NB594_600.out _; (with_reducible repeat (first | refine blk_drewN ?_ _ | refine blk_drew ?_ | refine blk_alloc ?_ _)); refine blk_far ?_ NB594_600.out _; (with_reducible repeat (first | refine blk_drewN ?_ _ | refine blk_drew ?_ | refine blk_alloc ?_ _)); exact BK594.out) : p := h
theorem m_64 {p : Prop} (h : p := by repeat (first | (with_reducible first | exact HB.out | apply below_alloc | apply pw_below_drewN | apply below_drew1 | refine below_set ?_ GE434.out | refine below_set ?_ GE435.out | refine below_set ?_ GE436.out) | exact HB.out)) : p := h
theorem m_65 {p : Prop} (h : p := by (with_reducible repeat (first | refine blk_drewN ?_ _ | refine blk_drew ?_ | refine blk_alloc ?_ _)); refine blk_far ?_ NB650_663.out _; (with_reducible repeat (first | refine blk_drewN ?_ _ | refine blk_drew ?_ | refine blk_alloc ?_ _)); refine blk_far ?_ NB650_663.out _; (with_reducible repeat (first | refine blk_drewN ?_ _ | refine blk_drew ?_ | refine blk_alloc ?_ _)); refine blk_far ?_ NB650_663.out _; (with_reducible repeat (first | refine blk_drewN ?_ _ | refine blk_drew ?_ | refine blk_alloc ?_ _)); refine blk_far ?_ NB650_663.out _; (with_reducible repeat (first | refine blk_drewN ?_ _ | refine blk_drew ?_ | refine blk_alloc ?_ _)); exact BK650.out) : p := h
theorem m_66 {p : Prop} (h : p := by (with_reducible repeat (first | refine blk_drewN ?_ _ | refine blk_drew ?_ | refine blk_alloc ?_ _)); refine blk_far ?_ NB649_663.out _; (with_reducible repeat (first | refine blk_drewN ?_ _ | refine blk_drew ?_ | refine blk_alloc ?_ _)); refine blk_far ?_ NB649_663.out _; (with_reducible repeat (first | refine blk_drewN ?_ _ | refine blk_drew ?_ | refine blk_alloc ?_ _)); refine blk_far ?_ NB649_663.out _; (with_reducible repeat (first | refine blk_drewN ?_ _ | refine blk_drew ?_ | refine blk_alloc ?_ _)); refine blk_far ?_ NB649_663.out _; (with_reducible repeat (first | refine blk_drewN ?_ _ | refine blk_drew ?_ | refine blk_alloc ?_ _)); exact BK649.out) : p := h
theorem m_67 {p : Prop} (h : p := by repeat (first | (with_reducible first | exact HB.out | apply below_alloc | apply pw_below_drewN | apply below_drew1 | refine below_set ?_ GE107.out) | exact HB.out)) : p := h
theorem m_68 {p : Prop} (h : p := by repeat (first | (with_reducible first | exact HB.out | apply below_alloc | apply pw_below_drewN | apply below_drew1 | refine below_set ?_ GE594.out | refine below_set ?_ GE595.out | refine below_set ?_ GE600.out | refine below_set ?_ GE610.out | refine below_set ?_ GE611.out | refine below_set ?_ GE621.out) | exact HB.out)) : p := h
theorem m_69 {p : Prop} (h : p := by (with_reducible repeat (first | apply Kd.V_alloc | apply Kd.V_drewN | apply Kd.V_drew)); exact (Kd.V_mono (Kd.V_mono (Kd.V_far (p := ⟨gb611, 1, none⟩) (Kd.V_far (p := ⟨gb611, 0, none⟩) (Kd.V_far (p := ⟨gb610, 1, none⟩) (Kd.V_far (p := ⟨gb610, 0, none⟩) (Kd.V_mono (Kd.V_mono HO599.out (fun k_ hk => (⟨hk, hk.1.2⟩ : _ ∧ k_ ≠ gb610))) (fun k_ hk => (⟨hk, hk.1.2⟩ : _ ∧ k_ ≠ gb611))) (fun _ hk => hk.1.2) (.bool t601)) (fun _ hk => hk.1.2) (.slice Ao27 t602.length co27)) (fun _ hk => hk.2) (.bool t605)) (fun _ hk => hk.2) (.slice Ao32 t606.length co32)) (fun _ h_ => h_.1)) (fun _ h_ => h_.1))) : p := h
theorem m_70 {p : Prop} (h : p := by (with_reducible repeat (first | apply Kd.V_alloc | apply Kd.V_drewN | apply Kd.V_drew)); exact (Kd.V_mono (Kd.V_mono (Kd.V_far (p := ⟨gb611, 1, none⟩) (Kd.V_far (p := ⟨gb611, 0, none⟩) (Kd.V_far (p := ⟨gb610, 1, none⟩) (Kd.V_far (p := ⟨gb610, 0, none⟩) (Kd.V_mono (Kd.V_mono HO0_3.out (fun k_ hk => (⟨hk, hk.1.2⟩ : _ ∧ k_ ≠ gb610))) (fun k_ hk => (⟨hk, hk.1.2⟩ : _ ∧ k_ ≠ gb611))) (fun _ hk => hk.1.2) (.bool t601)) (fun _ hk => hk.1.2) (.slice Ao27 t602.length co27)) (fun _ hk => hk.2) (.bool t605)) (fun _ hk => hk.2) (.slice Ao32 t606.length co32)) (fun _ h_ => h_.1)) (fun _ h_ => h_.1))) : p := h
theorem m_71 {p : Prop} (h : p := by first | omega | exact Nat.le_refl _) : p := h
theorem m_72 {p : Prop} (h : p := by (with_reducible repeat (first | apply Kd.V_alloc | apply Kd.V_drewN | apply Kd.V_drew)); exact (Kd.V_mono (Kd.V_far (p := ⟨gb708, 3, none⟩) (Kd.V_far (p := ⟨gb708, 2, none⟩) (Kd.V_far (p := ⟨gb708, 1, none⟩) (Kd.V_far (p := ⟨gb708, 0, none⟩) (Kd.V_mono HO702.out (fun k_ hk => (⟨hk, hk.2⟩ : _ ∧ k_ ≠ gb708))) (fun _ hk => hk.2) (.bool t699)) (fun _ hk => hk.2) (.slice Ao12 t700.length co12)) (fun _ hk => hk.2) (.bool t703)) (fun _ hk => hk.2) (.slice Ao13 t704.length co13)) (fun _ h_ => h_.1))) : p := h
theorem m_73 {p : Prop} (h : p := by repeat (first | (with_reducible first | exact HB.out | apply below_alloc | apply pw_below_drewN | apply below_drew1 | refine below_set ?_ GE594.out | refine below_set ?_ GE595.out | refine below_set ?_ GE600.out | refine below_set ?_ GE610.out) | exact HB.out)) : p := h
theorem m_74 {p : Prop} (h : p := by repeat (first | (with_reducible first | exact HB.out | apply below_alloc | apply pw_below_drewN | apply below_drew1 | refine below_set ?_ GE723.out) | exact HB.out)) : p := h
theorem m_75 {p : Prop} (h : p := by repeat (first | (with_reducible first | exact HB.out | apply below_alloc | apply pw_below_drewN | apply below_drew1 | refine below_set ?_ GE370.out) | exact HB.out)) : p := h
theorem m_76 {p : Prop} (h : p := by repeat (first | exact HB.out | apply below_alloc | apply pw_below_drewN | apply below_drew1)) : p := h
theorem m_77 {p : Prop} (h : p := by repeat (first | (with_reducible first | exact HB.out | apply below_alloc | apply pw_below_drewN | apply below_drew1 | refine below_set ?_ GE594.out | refine below_set ?_ GE595.out | refine below_set ?_ GE596.out) | exact HB.out)) : p := h
theorem m_79 {p : Prop} (h : p := by (with_reducible repeat (first | apply Kd.V_alloc | apply Kd.V_drewN | apply Kd.V_drew)); exact Kd.V_mono HO_948002.out (fun _ hk => ⟨hk.1.1.1.1, ⟨hk.1.1.2, ⟨hk.1.2, ⟨hk.1.1.1.2, hk.2⟩⟩⟩⟩)) : p := h
theorem m_80 {p : Prop} (h : p := by unfold Func.isWrapper; first | (rw [if_pos (by decide +kernel)]; kernel_rfl) | (rw [if_neg (by decide +kernel)]; exact ⟨rfl, rfl⟩)) : p := h
theorem m_81 {p : Prop} (h : p := by repeat (first | (with_reducible first | exact HB.out | apply below_alloc | apply pw_below_drewN | apply below_drew1 | refine below_set ?_ GE732.out | refine below_set ?_ GE733.out) | exact HB.out)) : p := h
theorem m_82 {p : Prop} (h : p := by repeat (first | (with_reducible first | exact HB.out | apply below_alloc | apply pw_below_drewN | apply below_drew1 | refine below_set ?_ GE721.out | refine below_set ?_ GE722.out) | exact HB.out)) : p := h
theorem m_83 {p : Prop} (h : p := by repeat (first | (with_reducible first | exact HB.out | apply below_alloc | apply pw_below_drewN | apply below_drew1 | refine below_set ?_ GE666.out | refine below_set ?_ GE667.out) | exact HB.out)) : p := h
theorem m_84 {p : Prop} (h : p := by repeat (first | (with_reducible first | exact HB.out | apply below_alloc | apply pw_below_drewN | apply below_drew1 | refine below_set ?_ GE572.out | refine below_set ?_ GE573.out) | exact HB.out)) : p := h
theorem m_85 {p : Prop} (h : p := by repeat (first | (with_reducible first | exact HB.out | apply below_alloc | apply pw_below_drewN | apply below_drew1 | refine below_set ?_ GE456.out | refine below_set ?_ GE457.out) | exact HB.out)) : p := h
theorem m_86 {p : Prop} (h : p := by repeat (first | (with_reducible first | exact HB.out | apply below_alloc | apply pw_below_drewN | apply below_drew1 | refine below_set ?_ GE434.out | refine below_set ?_ GE435.out) | exact HB.out)) : p := h
theorem m_87 {p : Prop} (h : p := by repeat (first | (with_reducible first | exact HB.out | apply below_alloc | apply pw_below_drewN | apply below_drew1 | refine below_set ?_ GE403.out | refine below_set ?_ GE404.out) | exact HB.out)) : p := h
theorem m_88 {p : Prop} (h : p := by repeat (first | (with_reducible first | exact HB.out | apply below_alloc | apply pw_below_drewN | apply below_drew1 | refine below_set ?_ GE211.out | refine below_set ?_ GE212.out) | exact HB.out)) : p := h
theorem m_89 {p : Prop} (h : p := by repeat (first | (with_reducible first | exact HB.out | apply below_alloc | apply pw_below_drewN | apply below_drew1 | refine below_set ?_ GE192.out | refine below_set ?_ GE193.out) | exact HB.out)) : p := h
theorem m_90 {p : Prop} (h : p := by repeat (first | (with_reducible first | exact HB.out | apply below_alloc | apply pw_below_drewN | apply below_drew1 | refine below_set ?_ GE166.out | refine below_set ?_ GE167.out) | exact HB.out)) : p := h
theorem m_92 {p : Prop} (h : p := by (with_reducible repeat (first | apply Kd.V_alloc | apply Kd.V_drewN | apply Kd.V_drew)); exact (Kd.V_mono (Kd.V_far (p := ⟨gb600, 1, none⟩) (Kd.V_far (p := ⟨gb600, 0, none⟩) (Kd.V_mono HO599.out (fun k_ hk => (⟨hk, hk.2⟩ : _ ∧ k_ ≠ gb600))) (fun _ hk => hk.2) (.bool t596)) (fun _ hk => hk.2) (.slice Ao17 t597.length co17)) (fun _ h_ => h_.1))) : p := h
theorem m_93 {p : Prop} (h : p := by (with_reducible repeat (first | apply Kd.V_alloc | apply Kd.V_drewN | apply Kd.V_drew)); exact (Kd.V_mono (Kd.V_far (p := ⟨gb600, 1, none⟩) (Kd.V_far (p := ⟨gb600, 0, none⟩) (Kd.V_mono HO0_1.out (fun k_ hk => (⟨hk, hk.2⟩ : _ ∧ k_ ≠ gb600))) (fun _ hk => hk.2) (.bool t596)) (fun _ hk => hk.2) (.slice Ao17 t597.length co17)) (fun _ h_ => h_.1))) : p := h
theorem m_94 {p : Prop} (h : p := by (with_reducible repeat (first | apply Kd.N_alloc | apply Kd.N_drewN | apply Kd.N_drew)); exact Kd.N_mono HO956.out (fun _ hk => ⟨hk.1.1.1, ⟨hk.1.2, ⟨hk.1.1.2, hk.2⟩⟩⟩)) : p := h
theorem m_95 {p : Prop} (h : p := by first | (rw [hRR]; rfl) | rfl | (simp [hRR])) : p := h
theorem m_96 {p : Prop} (h : p := by repeat (first | (with_reducible first | exact HB.out | apply below_alloc | apply pw_below_drewN | apply below_drew1 | refine below_set ?_ GE944.out) | exact HB.out)) : p := h
theorem m_97 {p : Prop} (h : p := by repeat (first | (with_reducible first | exact HB.out | apply below_alloc | apply pw_below_drewN | apply below_drew1 | refine below_set ?_ GE732.out) | exact HB.out)) : p := h
theorem m_98 {p : Prop} (h : p := by repeat (first | (with_reducible first | exact HB.out | apply below_alloc | apply pw_below_drewN | apply below_drew1 | refine below_set ?_ GE721.out) | exact HB.out)) : p := h
theorem m_99 {p : Prop} (h : p := by repeat (first | (with_reducible first | exact HB.out | apply below_alloc | apply pw_below_drewN | apply below_drew1 | refine below_set ?_ GE666.out) | exact HB.out)) : p := h
theorem m_100 {p : Prop} (h : p := by repeat (first | (with_reducible first | exact HB.out | apply below_alloc | apply pw_below_drewN | apply below_drew1 | refine below_set ?_ GE649.out) | exact HB.out)) : p := h
theorem m_101 {p : Prop} (h : p := by repeat (first | (with_reducible first | exact HB.out | apply below_alloc | apply pw_below_drewN | apply below_drew1 | refine below_set ?_ GE628.out) | exact HB.out)) : p := h
theorem m_102 {p : Prop} (h : p := by repeat (first | (with_reducible first | exact HB.out | apply below_alloc | apply pw_below_drewN | apply below_drew1 | refine below_set ?_ GE572.out) | exact HB.out)) : p := h
theorem m_103 {p : Prop} (h : p := by repeat (first | (with_reducible first | exact HB.out | apply below_alloc | apply pw_below_drewN | apply below_drew1 | refine below_set ?_ GE472.out) | exact HB.out)) : p := h
theorem m_104 {p : Prop} (h : p := by repeat (first | (with_reducible first | exact HB.out | apply below_alloc | apply pw_below_drewN | apply below_drew1 | refine below_set ?_ GE456.out) | exact HB.out)) : p := h
theorem m_105 {p : Prop} (h : p := by repeat (first | (with_reducible first | exact HB.out | apply below_alloc | apply pw_below_drewN | apply below_drew1 | refine below_set ?_ GE441.out) | exact HB.out)) : p := h
theorem m_106 {p : Prop} (h : p := by repeat (first | (with_reducible first | exact HB.out | apply below_alloc | apply pw_below_drewN | apply below_drew1 | refine below_set ?_ GE434.out) | exact HB.out)) : p := h
theorem m_107 {p : Prop} (h : p := by repeat (first | (with_reducible first | exact HB.out | apply below_alloc | apply pw_below_drewN | apply below_drew1 | refine below_set ?_ GE403.out) | exact HB.out)) : p := h
theorem m_108 {p : Prop} (h : p := by repeat (first | (with_reducible first | exact HB.out | apply below_alloc | apply pw_below_drewN | apply below_drew1 | refine below_set ?_ GE388.out) | exact HB.out)) : p := h
theorem m_109 {p : Prop} (h : p := by repeat (first | (with_reducible first | exact HB.out | apply below_alloc | apply pw_below_drewN | apply below_drew1 | refine below_set ?_ GE211.out) | exact HB.out)) : p := h
theorem m_110 {p : Prop} (h : p := by repeat (first | (with_reducible first | exact HB.out | apply below_alloc | apply pw_below_drewN | apply below_drew1 | refine below_set ?_ GE192.out) | exact HB.out)) : p := h
theorem m_111 {p : Prop} (h : p := by repeat (first | (with_reducible first | exact HB.out | apply below_alloc | apply pw_below_drewN | apply below_drew1 | refine below_set ?_ GE166.out) | exact HB.out)) : p := h
theorem m_112 {p : Prop} (h : p := by (with_reducible repeat (first | apply Kd.N_alloc | apply Kd.N_drewN | apply Kd.N_drew)); exact HO653.out) : p := h
theorem m_113 {p : Prop} (h : p := by (with_reducible repeat (first | apply Kd.R_alloc | apply Kd.R_drewN | apply Kd.R_drew)); exact HO_5.out) : p := h
theorem m_114 {p : Prop} (h : p := by repeat (first | exact BK.out | refine blk_drewN ?_ _ | refine blk_alloc ?_ _ | refine blk_drew ?_)) : p := h
theorem m_116 {p : Prop} (h : p := by (with_reducible repeat (first | apply Kd.R_alloc | apply Kd.R_drewN | apply Kd.R_drew)); exact Kd.R_mono HO959.out (fun _ hk => hk.1)) : p := h
theorem m_117 {p : Prop} (h : p := by have h_ := Kd.N_away HO_7.out (fun _ hk => hk.2.2); intro e_; exact h_ (by rw [e_]; rfl)) : p := h
theorem m_118 {p : Prop} (h : p := by have h_ := Kd.N_away HO_7.out (fun _ hk => hk.2.1); intro e_; exact h_ (by rw [e_]; rfl)) : p := h
theorem m_119 {p : Prop} (h : p := by have := HK1.out; omega) : p := h
theorem m_120 {p : Prop} (h : p := by rw [HF'.out, if_pos (by omega)]) : p := h
theorem m_121 {p : Prop} (h : p := by have := HJ2.out; have := HJ11.out; first | omega | exact Nat.le_refl _) : p := h
theorem m_122 {p : Prop} (h : p := by (with_reducible repeat (first | apply Kd.V_alloc | apply Kd.V_drewN | apply Kd.V_drew)); exact Kd.V_mono HO971.out (fun _ hk => ⟨hk.1.1, ⟨hk.1.2.1, ⟨hk.1.2.2.1, ⟨hk.1.2.2.2, hk.2⟩⟩⟩⟩)) : p := h
theorem m_123 {p : Prop} (h : p := by (with_reducible repeat (first | apply Kd.V_alloc | apply Kd.V_drewN | apply Kd.V_drew)); exact Kd.V_mono HO967.out (fun _ hk => ⟨hk.1.1, ⟨hk.1.2.1, ⟨hk.1.2.2.1, ⟨hk.1.2.2.2, hk.2⟩⟩⟩⟩)) : p := h
theorem m_124 {p : Prop} (h : p := by (with_reducible repeat (first | apply Kd.V_alloc | apply Kd.V_drewN | apply Kd.V_drew)); exact Kd.V_mono HO1_1.out (fun _ hk => ⟨hk.1.1.1.1, ⟨hk.1.1.1.2, ⟨hk.1.1.2, ⟨hk.1.2, hk.2⟩⟩⟩⟩)) : p := h
theorem m_125 {p : Prop} (h : p := by (with_reducible repeat (first | apply Kd.V_alloc | apply Kd.V_drewN | apply Kd.V_drew)); exact Kd.V_mono HO0_1.out (fun _ hk => ⟨hk.1.1.1.1, ⟨hk.1.1.1.2, ⟨hk.1.1.2, ⟨hk.1.2, hk.2⟩⟩⟩⟩)) : p := h
theorem m_126 {p : Prop} (h : p := by repeat (first | (with_reducible first | exact HB.out | apply below_alloc | apply pw_below_drewN | apply below_drew1 | refine below_set ?_ GE944.out | refine below_set ?_ GE945.out) | exact HB.out)) : p := h
theorem m_127 {p : Prop} (h : p := by repeat (first | (with_reducible exact HR640_3.out) | (with_reducible refine Kd.C_alloc ?_ _) | (with_reducible refine Kd.C_drewN ?_ _) | (with_reducible refine Kd.C_drew ?_) | exact HR640_3.out)) : p := h
theorem m_128 {p : Prop} (h : p := by repeat (first | (with_reducible exact HR640_1.out) | (with_reducible refine Kd.C_alloc ?_ _) | (with_reducible refine Kd.C_drewN ?_ _) | (with_reducible refine Kd.C_drew ?_) | exact HR640_1.out)) : p := h
theorem m_129 {p : Prop} (h : p := by simp only [putAll, Act.put, List.setIfInBounds_toArray, List.set_cons_zero, List.set_cons_succ]) : p := h
theorem m_130 {p : Prop} (h : p := by first | rfl | (simp [errW_none, errW_some] <;> rfl) | (simp only [← hji3]; first | rfl | (simp [errW_none, errW_some] <;> rfl)) | (simp [*, errW_none, errW_some] <;> rfl)) : p := h
theorem m_131 {p : Prop} (h : p := by repeat (first | (with_reducible first | exact HB.out | apply below_alloc | apply pw_below_drewN | apply below_drew1 | refine below_set ?_ GE708.out) | exact HB.out)) : p := h
theorem m_132 {p : Prop} (h : p := by have h_ : (x31_2 : Int) < ((x7_2.length : Int) : Int) := of_decide_eq_true m_4; first | exact h_ | (have e_ := (Kd.N_reads' HO_7.out).1; omega) | simpa using h_) : p := h
theorem m_133 {p : Prop} (h : p := by (with_reducible repeat (first | apply Kd.V_alloc | apply Kd.V_drewN | apply Kd.V_drew)); exact Kd.V_mono HO0_2.out (fun _ hk => ⟨hk.1.1, hk.1.2⟩)) : p := h
theorem m_134 {p : Prop} (h : p := by first | rfl | rw [wj] | simp) : p := h
theorem m_135 {p : Prop} (h : p := by first | (rw [add_block]; exact hn724_8) | (show (Addr.add _ _).block ≠ _; rw [add_block]; exact hn724_8) | exact hn724_8) : p := h
theorem m_136 {p : Prop} (h : p := by first | (rw [add_block]; exact hn724_7) | (show (Addr.add _ _).block ≠ _; rw [add_block]; exact hn724_7) | exact hn724_7) : p := h
theorem m_137 {p : Prop} (h : p := by first | (rw [add_block]; exact hn724_6) | (show (Addr.add _ _).block ≠ _; rw [add_block]; exact hn724_6) | exact hn724_6) : p := h
theorem m_138 {p : Prop} (h : p := by first | (rw [add_block]; exact hn724_5) | (show (Addr.add _ _).block ≠ _; rw [add_block]; exact hn724_5) | exact hn724_5) : p := h
theorem m_139 {p : Prop} (h : p := by first | (rw [add_block]; exact hn724_4) | (show (Addr.add _ _).block ≠ _; rw [add_block]; exact hn724_4) | exact hn724_4) : p := h
theorem m_140 {p : Prop} (h : p := by first | (rw [add_block]; exact hn724_3) | (show (Addr.add _ _).block ≠ _; rw [add_block]; exact hn724_3) | exact hn724_3) : p := h
theorem m_141 {p : Prop} (h : p := by first | (rw [add_block]; exact hn724_2) | (show (Addr.add _ _).block ≠ _; rw [add_block]; exact hn724_2) | exact hn724_2) : p := h
theorem m_142 {p : Prop} (h : p := by first | (rw [add_block]; exact hn724_1) | (show (Addr.add _ _).block ≠ _; rw [add_block]; exact hn724_1) | exact hn724_1) : p := h
theorem m_143 {p : Prop} (h : p := by first | (rw [add_block]; exact hn724_0) | (show (Addr.add _ _).block ≠ _; rw [add_block]; exact hn724_0) | exact hn724_0) : p := h
theorem m_144 {p : Prop} (h : p := by have := HPM.out; have := HLB.out.1; omega) : p := h
theorem m_145 {p : Prop} (h : p := by have := HJ.out; omega) : p := h
theorem m_146 {p : Prop} (h : p := by (with_reducible repeat (first | refine blk_drewN ?_ _ | refine blk_drew ?_ | refine blk_alloc ?_ _)); exact BK947.out) : p := h
theorem m_147 {p : Prop} (h : p := by (with_reducible repeat (first | refine blk_drewN ?_ _ | refine blk_drew ?_ | refine blk_alloc ?_ _)); exact BK605.out) : p := h
theorem m_148 {p : Prop} (h : p := by (with_reducible repeat (first | refine blk_drewN ?_ _ | refine blk_drew ?_ | refine blk_alloc ?_ _)); exact BK597.out) : p := h
theorem m_149 {p : Prop} (h : p := by (with_reducible repeat (first | refine blk_drewN ?_ _ | refine blk_drew ?_ | refine blk_alloc ?_ _)); exact BK596.out) : p := h
theorem m_150 {p : Prop} (h : p := by (with_reducible repeat (first | refine blk_drewN ?_ _ | refine blk_drew ?_ | refine blk_alloc ?_ _)); exact BK595.out) : p := h
theorem m_151 {p : Prop} (h : p := by (with_reducible repeat (first | refine blk_drewN ?_ _ | refine blk_drew ?_ | refine blk_alloc ?_ _)); exact BK594.out) : p := h
theorem m_152 {p : Prop} (h : p := by (with_reducible repeat (first | refine blk_drewN ?_ _ | refine blk_drew ?_ | refine blk_alloc ?_ _)); exact BK574.out) : p := h
theorem m_153 {p : Prop} (h : p := by (with_reducible repeat (first | refine blk_drewN ?_ _ | refine blk_drew ?_ | refine blk_alloc ?_ _)); exact BK573.out) : p := h
theorem m_154 {p : Prop} (h : p := by (with_reducible repeat (first | refine blk_drewN ?_ _ | refine blk_drew ?_ | refine blk_alloc ?_ _)); exact BK572.out) : p := h
section
variable {P : Program} {ops : Array Oper} {Q : Exit → Act → World → Prop} {md : Region.Mode} {S : World → Prop} {ds : List Nat} {T : Bool × List (List Nat × List Nat)} {B : List Nat}
variable {fuel : Nat} {l l' : Array Bool} {a a' : Act} {w : World} {t : Tmp} {oi : Oper} {v : Value}
theorem pA_ (i : Nat) (hT : rtab md ops = T) (h : wpAnyLast P md ops Q S ds fuel l' a' w)
  (hi : ops[i]? = some oi := by rfl) (hN : oi.dst = some t := by rfl) (hl : l.setIfInBounds i true = l' := by simp only [List.setIfInBounds_toArray, List.set_cons_zero, List.set_cons_succ]; rfl)
  (hc : anyT T l.toList l'.toList i = true := by kernel_rfl) (hQ : ∀ c a w, Q (.panic c) (a.put oi.dst v) w → Q (.panic c) a w := by exact fun _ _ _ h => h)
  (hy : Yields P ops oi v a := by refine Or.inl ⟨(by rfl), ?_⟩; intro w'; go_simp; with_reducible rfl)
  (ha : a.put (some t) v = a' := by simp only [Act.put, List.setIfInBounds_toArray, List.set_cons_zero, List.set_cons_succ, i64_w, i32_w]; rfl) : wpAnyLast P md ops Q S ds (fuel + 1) l a w :=
 pure_ l' hi hN (any_of hT hc) hQ hy ha h
theorem pB_ (i : Nat) (h : wpAnyLast P md ops Q S ds fuel l' a' w)
  (hi : ops[i]? = some oi := by rfl) (hN : oi.dst = some t := by rfl) (hl : l.setIfInBounds i true = l' := by simp only [List.setIfInBounds_toArray, List.set_cons_zero, List.set_cons_succ]; rfl)
  (hc : anyB md ops l l' i = true := by kernel_rfl) (hQ : ∀ c a w, Q (.panic c) (a.put oi.dst v) w → Q (.panic c) a w := by exact fun _ _ _ h => h)
  (hy : Yields P ops oi v a := by refine Or.inl ⟨(by rfl), ?_⟩; intro w'; go_simp; with_reducible rfl)
  (ha : a.put (some t) v = a' := by simp only [Act.put, List.setIfInBounds_toArray, List.set_cons_zero, List.set_cons_succ, i64_w, i32_w]; rfl) : wpAnyLast P md ops Q S ds (fuel + 1) l a w :=
 pure_ l' hi hN hc hQ hy ha h
theorem tA_ (i : Nat) (hT : rtab md ops = T) (hW : waitsOk T.2 B = true) (hS : S w) (h : wpAnyLast P md ops Q S ds fuel l' a' w)
  (hi : ops[i]? = some oi := by rfl) (hN : oi.dst = some t := by rfl) (hl : l.setIfInBounds i true = l' := by simp only [List.setIfInBounds_toArray, List.set_cons_zero, List.set_cons_succ]; rfl)
  (hc : takeW T B ds l.toList l'.toList i = true := by kernel_rfl) (hQ : ∀ c a w, Q (.panic c) (a.put oi.dst v) w → Q (.panic c) a w := by exact fun _ _ _ h => h)
  (hy : YieldsIf P ops S oi v a := by refine Or.inl ⟨(by rfl), ?_⟩; intro w' s_; repeat (cases ‹_ ∧ _›); go_simp; with_reducible rfl)
  (ha : a.put (some t) v = a' := by simp only [Act.put, List.setIfInBounds_toArray, List.set_cons_zero, List.set_cons_succ, i64_w, i32_w]; rfl) : wpAnyLast P md ops Q S ds (fuel + 1) l a w :=
 take_ l' hi hN (take_ofW hT hW hc) hQ hy hS ha h
theorem tB_ (i : Nat) (hS : S w) (h : wpAnyLast P md ops Q S ds fuel l' a' w)
  (hi : ops[i]? = some oi := by rfl) (hN : oi.dst = some t := by rfl) (hl : l.setIfInBounds i true = l' := by simp only [List.setIfInBounds_toArray, List.set_cons_zero, List.set_cons_succ]; rfl)
  (hc : takeB md ops ds l l' i = true := by kernel_rfl) (hQ : ∀ c a w, Q (.panic c) (a.put oi.dst v) w → Q (.panic c) a w := by exact fun _ _ _ h => h)
  (hy : YieldsIf P ops S oi v a := by refine Or.inl ⟨(by rfl), ?_⟩; intro w' s_; repeat (cases ‹_ ∧ _›); go_simp; with_reducible rfl)
  (ha : a.put (some t) v = a' := by simp only [Act.put, List.setIfInBounds_toArray, List.set_cons_zero, List.set_cons_succ, i64_w, i32_w]; rfl) : wpAnyLast P md ops Q S ds (fuel + 1) l a w :=
 take_ l' hi hN hc hQ hy hS ha h
end
section
variable {P : Program} {ops : Array Oper} {Q : Exit → Act → World → Prop} {md : Region.Mode} {S : World → Prop} {ds : List Nat} {T : Bool × List (List Nat × List Nat)}
variable {fuel : Nat} {l l' : Array Bool} {a a' : Act} {w : World} {t : Tmp} {oi : Oper}
theorem cB_1 (i : Nat) {f : FuncId} {fn : Func} (hf : P.funcs[f]? = some fn) {ag : Array Operand} {ts : Array TypeId} {args : Array Value}
  (h : Calls P f args w fun e w' => ∃ v, e = .returned v ∧ S w' ∧ (S w' → wpAnyLast P md ops Q S ds fuel l' (a.put (some t) v) w'))
  (hi : ops[i]? = some oi := by rfl) (hN : oi.dst = some t := by rfl) (hl : l.setIfInBounds i true = l' := by simp only [List.setIfInBounds_toArray, List.set_cons_zero, List.set_cons_succ]; rfl)
  (hc : readyB md ops l l' i = true := by kernel_rfl) (hd : i ∉ ds := by decide)
  (hname : (fn.name == "runtime.NumGoroutine") = false := by kernel_rfl) (hb : fn.body.isSome = true := by rfl)
  (hop : oi.op = .call { callee := .value (.func f), args := ag, argTypes := ts } := by rfl) (hw : Region.wanted oi (yielded ops a.tmps) = true := by rfl)
  (hargs : ag.map a.eval = args := by (try simp only [List.map_toArray, List.map_cons, List.map_nil]); first | done | rfl | (simp only [List.length_drop, List.length_take]; rfl)) : wpAnyLast P md ops Q S ds (fuel + 1) l a w :=
 one_ l' hi hN hc hd (fun K hK => goes_ hf hname hb args hw hN hop hargs (h.mono fun e w' ⟨v, he, hS, hk⟩ => ⟨v, he, hK.out _ _ hS hk⟩))
theorem nx_ {K : Prop} (hS : K) {v : Value} (h : K → wpAnyLast P md ops Q S ds fuel l a' w) (ha : a.put (some t) v = a' := by show Act.put _ _ _ = _; simp only [Act.put, List.setIfInBounds_toArray, List.set_cons_zero, List.set_cons_succ, i64_w, i32_w]; rfl) : K ∧ (K → wpAnyLast P md ops Q S ds fuel l (a.put (some t) v) w) := ⟨hS, fun k => by subst ha; exact h k⟩
end
def afterB (up : Bool) (a p : Int) : Bool := if up then decide (a < p) else decide (p < a)
def cutB (up : Bool) : Option Int → Int → Bool
 | none, _ => false
 | some a, p => !(afterB up a p)
def wrongFrom (up : Bool) : Option Int → List S99 → Int
 | _, [] => 0
 | prev, x :: l => if x.f0 < 1 ∨ 1000000 < x.f0 ∨ x.f1 < -1000000 ∨ 1000000 < x.f1 then 1
  else if cutB up prev x.f1 = true then 3 else wrongFrom up (some x.f1) l
def wrongF (up : Bool) (l : List S99) : Int := if l.length = 0 then 4 else if 3 < l.length then 5 else wrongFrom up none l
def prevAt (l : List S99) (k : Nat) : Option Int := if k = 0 then none else some (rd_T99 l ((k : Int) - 1)).f1
theorem rd99 (l : List S99) (k : Nat) (h : k < l.length) : rd_T99 l k = l[k] := by
 simp [rd_T99, h]
theorem prevAt_succ (l : List S99) (k : Nat) (h : k < l.length) : prevAt l (k + 1) = some (l[k]).f1 := by
 unfold prevAt
 rw [if_neg (by omega), show (((k + 1 : Nat) : Int) - 1) = (k : Int) from by omega, rd99 l k h]
theorem wrong_step (up : Bool) (l : List S99) (k : Nat) (h : k < l.length) :
  wrongFrom up (prevAt l k) (l.drop k) = if (rd_T99 l k).f0 < 1 ∨ 1000000 < (rd_T99 l k).f0 ∨ (rd_T99 l k).f1 < -1000000 ∨ 1000000 < (rd_T99 l k).f1 then 1
   else if cutB up (prevAt l k) (rd_T99 l k).f1 = true then 3 else wrongFrom up (prevAt l (k + 1)) (l.drop (k + 1)) := by
 rw [List.drop_eq_getElem_cons h, prevAt_succ l k h, rd99 l k h]
 rfl
theorem wrong_end (up : Bool) (l : List S99) (p : Option Int) (k : Nat) (h : l.length ≤ k) : wrongFrom up p (l.drop k) = 0 := by
 rw [List.drop_eq_nil_of_le h]
 rfl
theorem lit_up (a p : Int) (w : World) : Calls Try.prog 94 #[.int .i64 a, .int .i64 p] w fun e w' => e = .returned (.bool (afterB true a p)) ∧ w = w' := by
 go_enter Try.func94, Try.ntmps94
 go_wp2
 go_ret
 exact ⟨rfl, rfl⟩
theorem lit_down (a p : Int) (w : World) : Calls Try.prog 132 #[.int .i64 a, .int .i64 p] w fun e w' => e = .returned (.bool (afterB false a p)) ∧ w = w' := by
 go_enter Try.func132, Try.ntmps132
 go_wp2
 go_ret
 exact ⟨rfl, rfl⟩
theorem lit_up' (a p : Int) (b : Bool) (h : afterB true a p = b) (w : World) : Calls Try.prog 94 #[.int .i64 a, .int .i64 p] w fun e w' => e = .returned (.bool b) ∧ w = w' := by
 subst h
 exact lit_up a p w
theorem lit_down' (a p : Int) (b : Bool) (h : afterB false a p = b) (w : World) : Calls Try.prog 132 #[.int .i64 a, .int .i64 p] w fun e w' => e = .returned (.bool b) ∧ w = w' := by
 subst h
 exact lit_down a p w
set_option maxHeartbeats 4000000 in
set_option maxRecDepth 100000 in
theorem wrong_up (A0 : Option Addr) (c0 : Nat) (l0 : List S99) (w : World) (hr0 : Kd.C k99 w A0 l0.length l0) (hc0 : l0.length ≤ c0) :
  Calls Try.prog 75 #[.agg #[.func (.func 94) #[] #[]], .slice A0 l0.length c0] w fun e w' => e = .returned (.int .i64 (wrongF true l0)) ∧ Below w.heap.size w w' := by
 have hu99 := Try.underlying99
 have hu109 := Try.underlying109
 have HR0 := Aside0.mk hr0
 have HC0 := Aside0.mk hc0
 clear hr0 hc0
 by_cases h0 : l0.length = 0
 ·obtain rfl : l0 = [] := List.eq_nil_of_length_eq_zero h0
  clear h0
  go_enter Try.func75, Try.ntmps75
  go_wp2_with fail
  go_ret
  exact ⟨rfl, (Below.refl _ _).alloc (Nat.le_refl _) _⟩
 ·by_cases h3 : 3 < l0.length
  ·have hF : Aside0 (wrongF true l0 = 5) := ⟨(by unfold wrongF; rw [if_neg h0, if_pos h3])⟩
   have b0 : ((l0.length : Int) == 0) = false := by rw [beq_eq_false_iff_ne]; omega
   have b3 : decide ((3 : Int) < (l0.length : Int)) = true := by rw [decide_eq_true_iff]; omega
   have b3' : decide (3 < l0.length) = true := by rw [decide_eq_true_iff]; omega
   have b0' : (l0.length == 0) = false := by rw [beq_eq_false_iff_ne]; omega
   clear h0 h3
   go_enter Try.func75, Try.ntmps75
   go_wp2_with fail
   go_ret
   rw [hF.out]
   exact ⟨rfl, (Below.refl _ _).alloc (Nat.le_refl _) _⟩
  ·have hF : Aside0 (wrongF true l0 = wrongFrom true (prevAt l0 0) (l0.drop 0)) := ⟨(by unfold wrongF; rw [if_neg h0, if_neg h3]; rfl)⟩
   have b0 : ((l0.length : Int) == 0) = false := by rw [beq_eq_false_iff_ne]; omega
   have b3 : decide ((3 : Int) < (l0.length : Int)) = false := by rw [decide_eq_false_iff_not]; omega
   have b3' : decide (3 < l0.length) = false := by rw [decide_eq_false_iff_not]; omega
   have b0' : (l0.length == 0) = false := by rw [beq_eq_false_iff_ne]; omega
   have hl3 : l0.length ≤ 3 := by omega
   clear h0 h3
   go_enter Try.func75, Try.ntmps75
   go_wp2_with (first | ((with_reducible refine gate_dst (N := 2) rfl ?_); refine box_event ?hg (N := 2) ?hd (cs := #[.func (.func 94) #[] #[]]) (t := 111) ?hr ?_; (case hd => rfl); (case hg => rfl); (case hr => exact hr_); intro gb hg w1 hbox hb; have HB := Aside0.mk hb; have BK := Aside0.mk hbox; have GE := Aside0.mk (Nat.le_of_eq hg.symm); clear hb hbox hg))
   go_loopw [17] (fun v17 wr => ∃ k : Nat, v17 = .int .i64 k ∧ Aside0 (k ≤ l0.length) ∧ Aside0 (wrongF true l0 = wrongFrom true (prevAt l0 k) (l0.drop k)) ∧ Aside0 (wr.heap[gb]? = some (.cells #[.func (.func 94) #[] #[]] 111 (0, 0))) ∧ Aside0 (Below w.heap.size w wr)) (fun v17 _ => l0.length - (intOf v17).toNat)
   case atStart => exact ⟨0, rfl, ⟨Nat.zero_le _⟩, hF, BK, HB⟩
   case round =>
    clear hF BK HB
    obtain ⟨k, rfl, HK, HF, BK, HB⟩ := hrel
    have hcf : wr.cell? ⟨gb, 0, none⟩ = some (.func (.func 94) #[] #[]) := (blk_cell BK.out 0).trans rfl
    by_cases hlt : k < l0.length
    ·obtain ⟨ad, e, hx0, hx1⟩ := at_T99 HR0.out k (by omega) (by omega)
     cases e
     simp only [Int.toNat_natCast] at hx0 hx1
     replace hx0 := mv_ HB hx0
     replace hx1 := mv_ HB hx1
     have hs := wrong_step true l0 k hlt
     have HF' := Aside0.mk (HF.out.trans hs)
     clear hs HF
     generalize hq : (rd_T99 l0 k).f0 = q at *
     generalize hp : (rd_T99 l0 k).f1 = p at *
     have HP := Aside0.mk hp
     clear hq hp
     have q0 : (0 : Int) ≤ (k : Int) := by omega
     have q1 : (k : Int) < (l0.length : Int) := by omega
     by_cases t1 : q < 1
     ·have hE : Aside0 (wrongF true l0 = 1) := ⟨m_120⟩
      clear HF'
      go_wp2
      go_ret
      rw [hE.out]
      exact ⟨rfl, m_46⟩
     ·by_cases t2 : 1000000 < q
      ·have hE : Aside0 (wrongF true l0 = 1) := ⟨m_120⟩
       clear HF'
       go_wp2
       go_ret
       rw [hE.out]
       exact ⟨rfl, m_46⟩
      ·by_cases t3 : p < -1000000
       ·have hE : Aside0 (wrongF true l0 = 1) := ⟨m_120⟩
        clear HF'
        go_wp2
        go_ret
        rw [hE.out]
        exact ⟨rfl, m_46⟩
       ·by_cases t4 : 1000000 < p
        ·have hE : Aside0 (wrongF true l0 = 1) := ⟨m_120⟩
         clear HF'
         go_wp2
         go_ret
         rw [hE.out]
         exact ⟨rfl, m_46⟩
        ·replace HF' := Aside0.mk (HF'.out.trans (if_neg (by omega)))
         by_cases k0 : k = 0
         ·have HG : Aside0 (wrongF true l0 = wrongFrom true (prevAt l0 (k + 1)) (l0.drop (k + 1))) := ⟨by
           rw [HF'.out, show prevAt l0 k = none by rw [k0]; rfl]; rfl⟩
          have g0 : decide ((0 : Int) < (k : Int)) = false := by rw [decide_eq_false_iff_not]; omega
          have g1 : decide (0 < k) = false := by rw [decide_eq_false_iff_not]; omega
          clear HF' k0
          go_wp2
          go_quiet (fail)
          go_wp2
          go_roundw
          case rel => exact ⟨k + 1, (by go_num), ⟨(by omega)⟩, HG, ⟨m_114⟩, ⟨m_76⟩⟩
          case measure => simp [intOf]; omega
         ·have e1 : (k : Int) - 1 = ((k - 1 : Nat) : Int) := by omega
          obtain ⟨ad2, e, _, hy1⟩ := at_T99 HR0.out ((k - 1 : Nat) : Int) (by omega) (by omega)
          cases e
          simp only [Int.toNat_natCast] at hy1
          replace hy1 := mv_ HB hy1
          have hpa : prevAt l0 k = some (rd_T99 l0 ((k - 1 : Nat) : Int)).f1 := by unfold prevAt; rw [if_neg k0, e1]
          generalize (rd_T99 l0 ((k - 1 : Nat) : Int)).f1 = a at *
          clear e1
          have g0 : decide ((0 : Int) < (k : Int)) = true := by rw [decide_eq_true_iff]; omega
          have g1 : decide (0 < k) = true := by rw [decide_eq_true_iff]; omega
          have r0 : (0 : Int) ≤ (k : Int) - 1 := by omega
          have r1 : (k : Int) - 1 < (l0.length : Int) := by omega
          have HP2 := Aside0.mk hpa
          have hcf2 : ∀ o, (wr.alloc o).cell? ⟨gb, 0, none⟩ = some (.func (.func 94) #[] #[]) := fun o => pw_cell_below (below_alloc (Below.refl _ _) o) hcf
          have hy2 : ∀ o, (wr.alloc o).cell? ⟨(ad.add ((k - 1) * 2)).block, (ad.add ((k - 1) * 2)).off + 1, none⟩ = some (.int .i64 a) := fun o => pw_cell_below (below_alloc (Below.refl _ _) o) hy1
          clear hpa k0
          have HF3 := Aside0.mk (show wrongF true l0 = if (!(afterB true a p)) = true then 3 else wrongFrom true (prevAt l0 (k + 1)) (l0.drop (k + 1)) by rw [HF'.out, HP2.out]; rfl)
          clear HF'
          rcases hbb : afterB true a p with _ | _
          ·have HE : Aside0 (wrongF true l0 = 3) := ⟨(by rw [HF3.out, hbb]; rfl)⟩
           have HC := Aside0.mk hbb
           clear HF3 hbb
           go_wp2
           go_quiet ((go_at_call 94; exact Calls.quiet_of_same ((lit_up' a p false HC.out _).mono fun _ _ h => ⟨h.1, h.2.symm⟩)))
           go_wp2
           go_ret
           rw [HE.out]
           exact ⟨rfl, m_76⟩
          ·have HE : Aside0 (wrongF true l0 = wrongFrom true (prevAt l0 (k + 1)) (l0.drop (k + 1))) := ⟨(by rw [HF3.out, hbb]; rfl)⟩
           have HC := Aside0.mk hbb
           clear HF3 hbb
           go_wp2
           go_quiet ((go_at_call 94; exact Calls.quiet_of_same ((lit_up' a p true HC.out _).mono fun _ _ h => ⟨h.1, h.2.symm⟩)))
           go_wp2
           go_roundw
           case rel => exact ⟨k + 1, (by go_num), ⟨(by omega)⟩, HE, ⟨m_114⟩, ⟨m_76⟩⟩
           case measure => simp [intOf]; omega
    ·have HE : Aside0 (wrongF true l0 = 0) := ⟨HF.out.trans (wrong_end _ _ _ _ (by omega))⟩
     have q1 : ¬ (k : Int) < (l0.length : Int) := by omega
     clear HF
     go_wp2
     go_ret
     rw [HE.out]
     exact ⟨rfl, HB.out⟩
set_option maxHeartbeats 4000000 in
set_option maxRecDepth 100000 in
theorem wrong_down (A0 : Option Addr) (c0 : Nat) (l0 : List S99) (w : World) (hr0 : Kd.C k99 w A0 l0.length l0) (hc0 : l0.length ≤ c0) :
  Calls Try.prog 75 #[.agg #[.func (.func 132) #[] #[]], .slice A0 l0.length c0] w fun e w' => e = .returned (.int .i64 (wrongF false l0)) ∧ Below w.heap.size w w' := by
 have hu99 := Try.underlying99
 have hu109 := Try.underlying109
 have HR0 := Aside0.mk hr0
 have HC0 := Aside0.mk hc0
 clear hr0 hc0
 by_cases h0 : l0.length = 0
 ·obtain rfl : l0 = [] := List.eq_nil_of_length_eq_zero h0
  clear h0
  go_enter Try.func75, Try.ntmps75
  go_wp2_with fail
  go_ret
  exact ⟨rfl, (Below.refl _ _).alloc (Nat.le_refl _) _⟩
 ·by_cases h3 : 3 < l0.length
  ·have hF : Aside0 (wrongF false l0 = 5) := ⟨(by unfold wrongF; rw [if_neg h0, if_pos h3])⟩
   have b0 : ((l0.length : Int) == 0) = false := by rw [beq_eq_false_iff_ne]; omega
   have b3 : decide ((3 : Int) < (l0.length : Int)) = true := by rw [decide_eq_true_iff]; omega
   have b3' : decide (3 < l0.length) = true := by rw [decide_eq_true_iff]; omega
   have b0' : (l0.length == 0) = false := by rw [beq_eq_false_iff_ne]; omega
   clear h0 h3
   go_enter Try.func75, Try.ntmps75
   go_wp2_with fail
   go_ret
   rw [hF.out]
   exact ⟨rfl, (Below.refl _ _).alloc (Nat.le_refl _) _⟩
  ·have hF : Aside0 (wrongF false l0 = wrongFrom false (prevAt l0 0) (l0.drop 0)) := ⟨(by unfold wrongF; rw [if_neg h0, if_neg h3]; rfl)⟩
   have b0 : ((l0.length : Int) == 0) = false := by rw [beq_eq_false_iff_ne]; omega
   have b3 : decide ((3 : Int) < (l0.length : Int)) = false := by rw [decide_eq_false_iff_not]; omega
   have b3' : decide (3 < l0.length) = false := by rw [decide_eq_false_iff_not]; omega
   have b0' : (l0.length == 0) = false := by rw [beq_eq_false_iff_ne]; omega
   have hl3 : l0.length ≤ 3 := by omega
   clear h0 h3
   go_enter Try.func75, Try.ntmps75
   go_wp2_with (first | ((with_reducible refine gate_dst (N := 2) rfl ?_); refine box_event ?hg (N := 2) ?hd (cs := #[.func (.func 132) #[] #[]]) (t := 111) ?hr ?_; (case hd => rfl); (case hg => rfl); (case hr => exact hr_); intro gb hg w1 hbox hb; have HB := Aside0.mk hb; have BK := Aside0.mk hbox; have GE := Aside0.mk (Nat.le_of_eq hg.symm); clear hb hbox hg))
   go_loopw [17] (fun v17 wr => ∃ k : Nat, v17 = .int .i64 k ∧ Aside0 (k ≤ l0.length) ∧ Aside0 (wrongF false l0 = wrongFrom false (prevAt l0 k) (l0.drop k)) ∧ Aside0 (wr.heap[gb]? = some (.cells #[.func (.func 132) #[] #[]] 111 (0, 0))) ∧ Aside0 (Below w.heap.size w wr)) (fun v17 _ => l0.length - (intOf v17).toNat)
   case atStart => exact ⟨0, rfl, ⟨Nat.zero_le _⟩, hF, BK, HB⟩
   case round =>
    clear hF BK HB
    obtain ⟨k, rfl, HK, HF, BK, HB⟩ := hrel
    have hcf : wr.cell? ⟨gb, 0, none⟩ = some (.func (.func 132) #[] #[]) := (blk_cell BK.out 0).trans rfl
    by_cases hlt : k < l0.length
    ·obtain ⟨ad, e, hx0, hx1⟩ := at_T99 HR0.out k (by omega) (by omega)
     cases e
     simp only [Int.toNat_natCast] at hx0 hx1
     replace hx0 := mv_ HB hx0
     replace hx1 := mv_ HB hx1
     have hs := wrong_step false l0 k hlt
     have HF' := Aside0.mk (HF.out.trans hs)
     clear hs HF
     generalize hq : (rd_T99 l0 k).f0 = q at *
     generalize hp : (rd_T99 l0 k).f1 = p at *
     have HP := Aside0.mk hp
     clear hq hp
     have q0 : (0 : Int) ≤ (k : Int) := by omega
     have q1 : (k : Int) < (l0.length : Int) := by omega
     by_cases t1 : q < 1
     ·have hE : Aside0 (wrongF false l0 = 1) := ⟨m_120⟩
      clear HF'
      go_wp2
      go_ret
      rw [hE.out]
      exact ⟨rfl, m_46⟩
     ·by_cases t2 : 1000000 < q
      ·have hE : Aside0 (wrongF false l0 = 1) := ⟨m_120⟩
       clear HF'
       go_wp2
       go_ret
       rw [hE.out]
       exact ⟨rfl, m_46⟩
      ·by_cases t3 : p < -1000000
       ·have hE : Aside0 (wrongF false l0 = 1) := ⟨m_120⟩
        clear HF'
        go_wp2
        go_ret
        rw [hE.out]
        exact ⟨rfl, m_46⟩
       ·by_cases t4 : 1000000 < p
        ·have hE : Aside0 (wrongF false l0 = 1) := ⟨m_120⟩
         clear HF'
         go_wp2
         go_ret
         rw [hE.out]
         exact ⟨rfl, m_46⟩
        ·replace HF' := Aside0.mk (HF'.out.trans (if_neg (by omega)))
         by_cases k0 : k = 0
         ·have HG : Aside0 (wrongF false l0 = wrongFrom false (prevAt l0 (k + 1)) (l0.drop (k + 1))) := ⟨by
           rw [HF'.out, show prevAt l0 k = none by rw [k0]; rfl]; rfl⟩
          have g0 : decide ((0 : Int) < (k : Int)) = false := by rw [decide_eq_false_iff_not]; omega
          have g1 : decide (0 < k) = false := by rw [decide_eq_false_iff_not]; omega
          clear HF' k0
          go_wp2
          go_quiet (fail)
          go_wp2
          go_roundw
          case rel => exact ⟨k + 1, (by go_num), ⟨(by omega)⟩, HG, ⟨m_114⟩, ⟨m_76⟩⟩
          case measure => simp [intOf]; omega
         ·have e1 : (k : Int) - 1 = ((k - 1 : Nat) : Int) := by omega
          obtain ⟨ad2, e, _, hy1⟩ := at_T99 HR0.out ((k - 1 : Nat) : Int) (by omega) (by omega)
          cases e
          simp only [Int.toNat_natCast] at hy1
          replace hy1 := mv_ HB hy1
          have hpa : prevAt l0 k = some (rd_T99 l0 ((k - 1 : Nat) : Int)).f1 := by unfold prevAt; rw [if_neg k0, e1]
          generalize (rd_T99 l0 ((k - 1 : Nat) : Int)).f1 = a at *
          clear e1
          have g0 : decide ((0 : Int) < (k : Int)) = true := by rw [decide_eq_true_iff]; omega
          have g1 : decide (0 < k) = true := by rw [decide_eq_true_iff]; omega
          have r0 : (0 : Int) ≤ (k : Int) - 1 := by omega
          have r1 : (k : Int) - 1 < (l0.length : Int) := by omega
          have HP2 := Aside0.mk hpa
          have hcf2 : ∀ o, (wr.alloc o).cell? ⟨gb, 0, none⟩ = some (.func (.func 132) #[] #[]) := fun o => pw_cell_below (below_alloc (Below.refl _ _) o) hcf
          have hy2 : ∀ o, (wr.alloc o).cell? ⟨(ad.add ((k - 1) * 2)).block, (ad.add ((k - 1) * 2)).off + 1, none⟩ = some (.int .i64 a) := fun o => pw_cell_below (below_alloc (Below.refl _ _) o) hy1
          clear hpa k0
          have HF3 := Aside0.mk (show wrongF false l0 = if (!(afterB false a p)) = true then 3 else wrongFrom false (prevAt l0 (k + 1)) (l0.drop (k + 1)) by rw [HF'.out, HP2.out]; rfl)
          clear HF'
          rcases hbb : afterB false a p with _ | _
          ·have HE : Aside0 (wrongF false l0 = 3) := ⟨(by rw [HF3.out, hbb]; rfl)⟩
           have HC := Aside0.mk hbb
           clear HF3 hbb
           go_wp2
           go_quiet ((go_at_call 132; exact Calls.quiet_of_same ((lit_down' a p false HC.out _).mono fun _ _ h => ⟨h.1, h.2.symm⟩)))
           go_wp2
           go_ret
           rw [HE.out]
           exact ⟨rfl, m_76⟩
          ·have HE : Aside0 (wrongF false l0 = wrongFrom false (prevAt l0 (k + 1)) (l0.drop (k + 1))) := ⟨(by rw [HF3.out, hbb]; rfl)⟩
           have HC := Aside0.mk hbb
           clear HF3 hbb
           go_wp2
           go_quiet ((go_at_call 132; exact Calls.quiet_of_same ((lit_down' a p true HC.out _).mono fun _ _ h => ⟨h.1, h.2.symm⟩)))
           go_wp2
           go_roundw
           case rel => exact ⟨k + 1, (by go_num), ⟨(by omega)⟩, HE, ⟨m_114⟩, ⟨m_76⟩⟩
           case measure => simp [intOf]; omega
    ·have HE : Aside0 (wrongF false l0 = 0) := ⟨HF.out.trans (wrong_end _ _ _ _ (by omega))⟩
     have q1 : ¬ (k : Int) < (l0.length : Int) := by omega
     clear HF
     go_wp2
     go_ret
     rw [HE.out]
     exact ⟨rfl, HB.out⟩
set_option maxHeartbeats 1000000 in
theorem rising_calls (w : World) : Calls Try.prog 74 #[] w fun e w' => e = .returned (.agg #[.func (.func 94) #[] #[]]) ∧ Below w.heap.size w w' := by
 go_enter Try.func74, Try.ntmps74
 go_wp2
 exact bodyPost_ret (v := .agg #[.func (.func 94) #[] #[]]) (by simp [results, Try.results74, go_sem]) rfl ⟨rfl, (Below.refl _ _).alloc (Nat.le_refl _) _⟩
theorem checkOffer (A0 : Option Addr) (c0 : Nat) (l0 : List S99) (w : World) (hr0 : Kd.C k99 w A0 l0.length l0) (hc0 : l0.length ≤ c0) :
  Calls Try.prog 57 #[.slice A0 l0.length c0] w fun e w' => e = .returned (.int .i64 (wrongF true l0)) ∧ Below w.heap.size w w' := by
 have HR0 := Aside0.mk hr0
 have HC0 := Aside0.mk hc0
 clear hr0 hc0
 go_enter Try.func57, Try.ntmps57
 go_wp2_with fail
 refine (rising_calls _).mono ?_
 rintro e w1 ⟨rfl, hb1⟩
 go_wp2_with fail
 refine (wrong_up A0 c0 l0 _ ?_ HC0.out).mono ?_
 ·exact Kd.C_below HR0.out hb1
 rintro e w2 ⟨rfl, hb2⟩
 go_wp2_with fail
 go_ret
 exact ⟨rfl, below_step hb1 hb2⟩
set_option maxHeartbeats 1000000 in
theorem falling_calls (w : World) : Calls Try.prog 119 #[] w fun e w' => e = .returned (.agg #[.func (.func 132) #[] #[]]) ∧ Below w.heap.size w w' := by
 go_enter Try.func119, Try.ntmps119
 go_wp2
 exact bodyPost_ret (v := .agg #[.func (.func 132) #[] #[]]) (by simp [results, Try.results119, go_sem]) rfl ⟨rfl, (Below.refl _ _).alloc (Nat.le_refl _) _⟩
theorem checkBid (A0 : Option Addr) (c0 : Nat) (l0 : List S99) (w : World) (hr0 : Kd.C k99 w A0 l0.length l0) (hc0 : l0.length ≤ c0) :
  Calls Try.prog 95 #[.slice A0 l0.length c0] w fun e w' => e = .returned (.int .i64 (wrongF false l0)) ∧ Below w.heap.size w w' := by
 have HR0 := Aside0.mk hr0
 have HC0 := Aside0.mk hc0
 clear hr0 hc0
 go_enter Try.func95, Try.ntmps95
 go_wp2_with fail
 refine (falling_calls _).mono ?_
 rintro e w1 ⟨rfl, hb1⟩
 go_wp2_with fail
 refine (wrong_down A0 c0 l0 _ ?_ HC0.out).mono ?_
 ·exact Kd.C_below HR0.out hb1
 rintro e w2 ⟨rfl, hb2⟩
 go_wp2_with fail
 go_ret
 exact ⟨rfl, below_step hb1 hb2⟩
def step_CheckOffer.f (l0 : List S99) : Option Int := some (wrongF true l0)
theorem step_CheckOffer.calls (A0 : Option Addr) (c0 : Nat) (l0 : List S99) (r : Int) (w : World) (hr0 : Kd.C k99 w A0 l0.length l0) (hc0 : l0.length ≤ c0) (h : step_CheckOffer.f l0 = some r) :
  Calls Try.prog 57 #[.slice A0 l0.length c0] w fun e w' => e = .returned (.int .i64 r) ∧ Below w.heap.size w w' := by
 obtain rfl := Option.some.inj h
 exact checkOffer A0 c0 l0 w hr0 hc0
def step_CheckBid.f (l0 : List S99) : Option Int := some (wrongF false l0)
theorem step_CheckBid.calls (A0 : Option Addr) (c0 : Nat) (l0 : List S99) (r : Int) (w : World) (hr0 : Kd.C k99 w A0 l0.length l0) (hc0 : l0.length ≤ c0) (h : step_CheckBid.f l0 = some r) :
  Calls Try.prog 95 #[.slice A0 l0.length c0] w fun e w' => e = .returned (.int .i64 r) ∧ Below w.heap.size w w' := by
 obtain rfl := Option.some.inj h
 exact checkBid A0 c0 l0 w hr0 hc0
end Go.Proofs.Ytelklgdmhnkenaa.U
namespace Go.Proofs.Ytelklgdmhnkenaa.U
attribute [local go_sem] max2_int min2_int max_two min_two max_three min_three max_four min_four
def step_curve.f (l0 : List (S99)) : Option (Int) := (step_CheckBid.f l0).bind fun t102 => (if t102 = 0 then (some 0) else ((step_CheckOffer.f l0).bind fun t103 => (some t103)))
set_option maxHeartbeats 8000000 in
set_option maxRecDepth 100000 in
theorem step_curve.calls (A0 : Option Addr) (c0 : Nat) (l0 : List (S99)) (r : Int) (w : World) (hr0 : Kd.C k99 w A0 l0.length l0) (hc0 : l0.length ≤ c0) (h : step_curve.f l0 = some r) :
  Calls Try.prog 76 #[.slice A0 l0.length c0] w fun e w' => e = .returned (.int .i64 r) ∧ Below w.heap.size w w' := by
 have HR0 := Aside0.mk hr0
 have HC0 := Aside0.mk hc0
 clear hr0 hc0
 have HB := Aside0.mk (Below.refl w.heap.size w)
 have H : ((step_CheckBid.f l0).bind fun t102 => (if t102 = 0 then (some 0) else ((step_CheckOffer.f l0).bind fun t103 => (some t103)))) = some r := h
 clear h
 replace H := Option.bind_eq_some_iff.mp H
 obtain ⟨t102, A20, H⟩ := H
 replace H : (if t102 = 0 then (some 0) else ((step_CheckOffer.f l0).bind fun t103 => (some t103))) = some r := H
 have A2 := Aside0.mk A20
 clear A20
 by_cases c3 : t102 = 0
 ·rw [if_pos c3] at H
  have c3b0 : (t102 == 0) = true := beq_iff_eq.mpr c3
  clear c3
  obtain rfl := Option.some.inj H
  go_enter Try.func76, Try.ntmps76
  go_wp2_with (first | ((with_reducible refine gate_callee (f := 95) rfl ?_); refine goesL_ (some 4) rfl rfl Try.func95 m_13 rfl #[.slice A0 l0.length c0] rfl m_2 ?_; (with_reducible refine (step_CheckBid.calls _ _ l0 t102 _ ?side1 ?side2 A2.out).mono ?_); (case side1 => exact cA_ HR0.out); (case side2 => exact HC0.out); rintro e w4 ⟨rfl, hb⟩; refine ⟨_, rfl, ?_⟩; replace HB := Aside0.mk (below_step m_1 hb); clear hb))
  go_ret
  exact ⟨m_5, m_1⟩
 ·rw [if_neg c3] at H
  have c3b0 : (t102 == 0) = false := beq_eq_false_iff_ne.mpr c3
  replace H := Option.bind_eq_some_iff.mp H
  obtain ⟨t103, A50, H⟩ := H
  replace H : (some t103) = some r := H
  have A5 := Aside0.mk A50
  clear A50
  obtain rfl := Option.some.inj H
  go_enter Try.func76, Try.ntmps76
  go_wp2_with (first | ((with_reducible refine gate_callee (f := 95) rfl ?_); refine goesL_ (some 4) rfl rfl Try.func95 m_13 rfl #[.slice A0 l0.length c0] rfl m_2 ?_; (with_reducible refine (step_CheckBid.calls _ _ l0 t102 _ ?side1 ?side2 A2.out).mono ?_); (case side1 => exact cA_ HR0.out); (case side2 => exact HC0.out); rintro e w6 ⟨rfl, hb⟩; refine ⟨_, rfl, ?_⟩; replace HB := Aside0.mk (below_step m_1 hb); clear hb) | ((with_reducible refine gate_callee (f := 57) rfl ?_); refine goesL_ (some 7) rfl rfl Try.func57 m_13 rfl #[.slice A0 l0.length c0] rfl m_2 ?_; (with_reducible refine (step_CheckOffer.calls _ _ l0 t103 _ ?side1 ?side2 A5.out).mono ?_); (case side1 => exact cA_ (Kd.C_below HR0.out HB.out)); (case side2 => exact HC0.out); rintro e w7 ⟨rfl, hb⟩; refine ⟨_, rfl, ?_⟩; replace HB := Aside0.mk (below_step m_1 hb); clear hb))
  go_ret
  exact ⟨m_5, m_1⟩
end Go.Proofs.Ytelklgdmhnkenaa.U
namespace Go.Proofs.Ytelklgdmhnkenaa.U
attribute [local go_sem] max2_int min2_int max_two min_two max_three min_three max_four min_four
def step_Sum.l0 : Nat → Int → List (S99) → Int → Int → Option (Int)
 | 0, _, _, _, _ => none
 | k + 1, x3, x9, x10, x11 => if x11 < x10 then (if 0 ≤ x11 then (if x11 < (x9.length : Int) then (step_Sum.l0 k (wrap64 (x3 + ((rd_T99 x9 x11).f0))) x9 x10 (wrap64 (x11 + 1))) else (none)) else (none)) else (some x3)
def step_Sum.f (k : Nat) (l0 : List (S99)) : Option (Int) := (step_curve.f l0).bind fun t104 => (if t104 = 0 then (step_Sum.l0 k 0 l0 (l0.length : Int) 0) else (some 0))
set_option maxHeartbeats 8000000 in
set_option maxRecDepth 100000 in
theorem step_Sum.calls (k : Nat) (A0 : Option Addr) (c0 : Nat) (l0 : List (S99)) (r : Int) (w : World) (hr0 : Kd.C k99 w A0 l0.length l0) (hc0 : l0.length ≤ c0) (h : step_Sum.f k l0 = some r) :
  Calls Try.prog 59 #[.slice A0 l0.length c0] w fun e w' => e = .returned (.int .i64 r) ∧ Below w.heap.size w w' := by
 have HR0 := Aside0.mk hr0
 have HC0 := Aside0.mk hc0
 clear hr0 hc0
 have HB := Aside0.mk (Below.refl w.heap.size w)
 have H : ((step_curve.f l0).bind fun t104 => (if t104 = 0 then (step_Sum.l0 k 0 l0 (l0.length : Int) 0) else (some 0))) = some r := h
 clear h
 replace H := Option.bind_eq_some_iff.mp H
 obtain ⟨t104, A20, H⟩ := H
 replace H : (if t104 = 0 then (step_Sum.l0 k 0 l0 (l0.length : Int) 0) else (some 0)) = some r := H
 have A2 := Aside0.mk A20
 clear A20
 by_cases c3 : t104 = 0
 ·rw [if_pos c3] at H
  have c3b1 : (t104 != 0) = false := bne_eq_false_iff_eq.mpr c3
  clear c3
  have H' := Aside0.mk H
  clear H
  go_enter Try.func59, Try.ntmps59
  go_wp2_with (first | ((with_reducible refine gate_callee (f := 76) rfl ?_); refine goesL_ (some 7) rfl rfl Try.func76 m_13 rfl #[.slice A0 l0.length c0] rfl m_2 ?_; (with_reducible refine (step_curve.calls _ _ l0 t104 _ ?side1 ?side2 A2.out).mono ?_); (case side1 => exact cA_ HR0.out); (case side2 => exact HC0.out); rintro e w4 ⟨rfl, hb⟩; refine ⟨_, rfl, ?_⟩; replace HB := Aside0.mk (below_step m_1 hb); clear hb))
  go_loopg [3, 11] k (fun kq v3 v11 w' => ∃ (x3_1 : Int) (x11_1 : Int), v3 = .int .i64 x3_1 ∧ v11 = .int .i64 x11_1 ∧ Aside0 (step_Sum.l0 kq x3_1 l0 (l0.length : Int) x11_1 = some r) ∧ Aside0 (kq ≤ k) ∧ Aside0 (Below w.heap.size w w'))
  case atStart => exact ⟨(0), (0), m_9, m_9, H', ⟨Nat.le_refl _⟩, ⟨m_1⟩⟩
  case round =>
   clear H'
   (try clear p2); (try clear c3); (try skip); (try clear c3b1)
   obtain ⟨x3_1, x11_1, rfl, rfl, HA, HK1, HB⟩ := hrel
   cases gk with
   | zero => exact absurd HA.out (by simp [step_Sum.l0])
   | succ k1 =>
    have H := HA.out
    clear HA
    simp only [step_Sum.l0] at H
    by_cases c5 : x11_1 < (l0.length : Int)
    ·rw [if_pos c5] at H
     clear c5
     by_cases c6 : 0 ≤ x11_1
     ·rw [if_pos c6] at H
      have c6b0 : decide (0 ≤ x11_1) = true := decide_eq_true c6
      clear c6
      by_cases c7 : x11_1 < (l0.length : Int)
      ·rw [if_pos c7] at H
       have c7b0 : decide (x11_1 < (l0.length : Int)) = true := decide_eq_true c7
       clear c7
       have H' := Aside0.mk H
       clear H
       have p105 : 0 ≤ (x11_1 : Int) := of_decide_eq_true m_4
       have q105 : x11_1 < (l0.length : Int) := of_decide_eq_true m_4
       obtain ⟨ad105, e105, hx105_0, hx105_1⟩ := at_T99 HR0.out x11_1 p105 q105
       cases e105
       replace hx105_0 := mv_ HB hx105_0
       replace hx105_1 := mv_ HB hx105_1
       replace p105 := eq_true p105
       replace q105 := eq_true q105
       go_wp2_with (first | ((with_reducible refine gate_dst (N := 5) rfl ?_); refine box_event ?hg (N := 5) ?hd (cs := #[.int .i64 0, .int .i64 0]) (t := 99) ?hr ?_; (case hd => rfl); (case hg => rfl); (case hr => exact hr_); intro gb106 hg w8 hbox hb; have BK106 := Aside0.mk (hbox); have GE106 := gW_ (w := w) hg m_1; replace HB := Aside0.mk (below_step m_1 hb); clear hb hbox hg; obtain ⟨hcz9_0, hcz9_1, hfz9_0, hfz9_1⟩ := cf2_ BK106))
       go_roundg k1
       case measure => have := HK1.out; omega
       case rel => exact ⟨(wrap64 (x3_1 + ((rd_T99 l0 x11_1).f0))), (wrap64 (x11_1 + 1)), m_9, m_9, H', ⟨m_119⟩, ⟨(by repeat (first | (with_reducible first | exact HB.out | apply below_alloc | apply pw_below_drewN | apply below_drew1 | refine below_set ?_ GE106.out) | exact HB.out))⟩⟩
      ·rw [if_neg c7] at H
       exact absurd H (by simp)
     ·rw [if_neg c6] at H
      exact absurd H (by simp)
    ·rw [if_neg c5] at H
     have c5b0 : decide (x11_1 < (l0.length : Int)) = false := decide_eq_false c5
     clear c5
     obtain rfl := Option.some.inj H
     go_wp2
     go_ret
     exact ⟨m_5, m_1⟩
 ·rw [if_neg c3] at H
  have c3b1 : (t104 != 0) = true := bne_iff_ne.mpr c3
  obtain rfl := Option.some.inj H
  go_enter Try.func59, Try.ntmps59
  go_wp2_with (first | ((with_reducible refine gate_callee (f := 76) rfl ?_); refine goesL_ (some 7) rfl rfl Try.func76 m_13 rfl #[.slice A0 l0.length c0] rfl m_2 ?_; (with_reducible refine (step_curve.calls _ _ l0 t104 _ ?side1 ?side2 A2.out).mono ?_); (case side1 => exact cA_ HR0.out); (case side2 => exact HC0.out); rintro e w10 ⟨rfl, hb⟩; refine ⟨_, rfl, ?_⟩; replace HB := Aside0.mk (below_step m_1 hb); clear hb))
  go_ret
  exact ⟨m_5, m_1⟩
def Apt (ga gb : Nat) (b5 b6 : Bool) (g5 g6 : Nat) (k : Nat) : Prop := k ≠ ga ∧ k ≠ gb ∧ (b5 = true → k ≠ g5) ∧ (b6 = true → k ≠ g6)
structure FQ (w : World) (ga gb : Nat) (oa ob z : Obj) (t1 t2 t3 t4 : List Int) (c1 c2 b5 b6 : Bool) (s : Value × Value × Value × Value × Nat × Nat) (w' : World) : Prop where
 a : w'.heap[ga]? = some oa
 b : w'.heap[gb]? = some ob
 la : w.heap.size ≤ ga
 lb : w.heap.size ≤ gb
 bel : Below w.heap.size w w'
 r1 : c1 = true → Kd.V (Kd.int .u32) 117 w' w.heap.size (Apt ga gb b5 b6 s.2.2.2.2.1 s.2.2.2.2.2) s.1 t1 ∧ Kd.V (Kd.int .u32) 117 w' w.heap.size (Apt ga gb b5 b6 s.2.2.2.2.1 s.2.2.2.2.2) s.2.1 t2
 r2 : c2 = true → Kd.V (Kd.int .u32) 117 w' w.heap.size (Apt ga gb b5 b6 s.2.2.2.2.1 s.2.2.2.2.2) s.2.2.1 t3 ∧ Kd.V (Kd.int .u32) 117 w' w.heap.size (Apt ga gb b5 b6 s.2.2.2.2.1 s.2.2.2.2.2) s.2.2.2.1 t4
 z5 : b5 = true → w'.heap[s.2.2.2.2.1]? = some z ∧ w.heap.size ≤ s.2.2.2.2.1 ∧ ga ≠ s.2.2.2.2.1 ∧ gb ≠ s.2.2.2.2.1
 z6 : b6 = true → w'.heap[s.2.2.2.2.2]? = some z ∧ w.heap.size ≤ s.2.2.2.2.2 ∧ ga ≠ s.2.2.2.2.2 ∧ gb ≠ s.2.2.2.2.2
 ne : b5 = true → b6 = true → s.2.2.2.2.1 ≠ s.2.2.2.2.2
section
variable {w w' w'' : World} {ga gb : Nat} {oa ob z : Obj} {t1 t2 t3 t4 : List Int} {c1 c2 b5 b6 : Bool} {v1 v2 v3 v4 u1 u2 : Value} {g5 g6 g : Nat} {P : Nat → Prop}
theorem FQ.new (h : FQ w ga gb oa ob z t1 t2 t3 t4 c1 c2 b5 b6 (v1, v2, v3, v4, g5, g6) w') {t : List Int} {v : Value} (ho : Kd.V (Kd.int .u32) 117 w'' w'.heap.size (fun k => (k < w.heap.size ∨ k < w.heap.size) ∨ w'.heap.size ≤ k) v t) :
  Kd.V (Kd.int .u32) 117 w'' w.heap.size (Apt ga gb b5 b6 g5 g6) v t := by
 refine Kd.V_lower (Kd.V_mono ho fun k hk => ?_) (below_size h.bel)
 have l1 := blk_lt h.a
 have l2 := blk_lt h.b
 have l3 := h.la
 have l4 := h.lb
 have hs := below_size h.bel
 refine ⟨(by omega), (by omega), fun hb => ?_, fun hb => ?_⟩
 ·have := h.z5 hb
  have l5 := blk_lt this.1
  simp only at this l5
  omega
 ·have := h.z6 hb
  have l5 := blk_lt this.1
  simp only at this l5
  omega
theorem FQ.step (h : FQ w ga gb oa ob z t1 t2 t3 t4 c1 c2 b5 b6 (v1, v2, v3, v4, g5, g6) w') (hb : Below w'.heap.size w' w'') : FQ w ga gb oa ob z t1 t2 t3 t4 c1 c2 b5 b6 (v1, v2, v3, v4, g5, g6) w'' :=
 ⟨blk_below h.a hb, blk_below h.b hb, h.la, h.lb, below_step h.bel hb, fun e => ⟨Kd.V_below (h.r1 e).1 hb, Kd.V_below (h.r1 e).2 hb⟩, fun e => ⟨Kd.V_below (h.r2 e).1 hb, Kd.V_below (h.r2 e).2 hb⟩,
  fun e => ⟨blk_below (h.z5 e).1 hb, (h.z5 e).2⟩, fun e => ⟨blk_below (h.z6 e).1 hb, (h.z6 e).2⟩, h.ne⟩
theorem FQ.call1 (h : FQ w ga gb oa ob z t1 t2 t3 t4 false c2 b5 b6 (v1, v2, v3, v4, g5, g6) w')
  (h1 : Kd.V (Kd.int .u32) 117 w'' w'.heap.size (fun k => (k < w.heap.size ∨ k < w.heap.size) ∨ w'.heap.size ≤ k) u1 t1) (h2 : Kd.V (Kd.int .u32) 117 w'' w'.heap.size (fun k => (k < w.heap.size ∨ k < w.heap.size) ∨ w'.heap.size ≤ k) u2 t2) (hb : Below w'.heap.size w' w'') :
  FQ w ga gb oa ob z t1 t2 t3 t4 true c2 b5 b6 (u1, u2, v3, v4, g5, g6) w'' := by
 have k := h.step hb
 exact ⟨k.a, k.b, k.la, k.lb, k.bel, fun _ => ⟨h.new h1, h.new h2⟩, k.r2, k.z5, k.z6, k.ne⟩
theorem FQ.call2 (h : FQ w ga gb oa ob z t1 t2 t3 t4 c1 false b5 b6 (v1, v2, v3, v4, g5, g6) w')
  (h1 : Kd.V (Kd.int .u32) 117 w'' w'.heap.size (fun k => (k < w.heap.size ∨ k < w.heap.size) ∨ w'.heap.size ≤ k) u1 t3) (h2 : Kd.V (Kd.int .u32) 117 w'' w'.heap.size (fun k => (k < w.heap.size ∨ k < w.heap.size) ∨ w'.heap.size ≤ k) u2 t4) (hb : Below w'.heap.size w' w'') :
  FQ w ga gb oa ob z t1 t2 t3 t4 c1 true b5 b6 (v1, v2, u1, u2, g5, g6) w'' := by
 have k := h.step hb
 exact ⟨k.a, k.b, k.la, k.lb, k.bel, k.r1, fun _ => ⟨h.new h1, h.new h2⟩, k.z5, k.z6, k.ne⟩
theorem FQ.elder {v : Value} {t : List Int} {ok ok' : Nat → Prop} (hv : Kd.V (Kd.int .u32) 117 w' w.heap.size ok v t) (hg : g = w'.heap.size) (hb : Below w'.heap.size w' w'') (hm : ∀ k, ok k ∧ k ≠ g → ok' k) : Kd.V (Kd.int .u32) 117 w'' w.heap.size ok' v t :=
 Kd.V_mono (Kd.V_below (Kd.V_elderB hv g (Nat.le_of_eq hg.symm)) hb) hm
theorem FQ.box5 (h : FQ w ga gb oa ob z t1 t2 t3 t4 c1 c2 false b6 (v1, v2, v3, v4, g5, g6) w') (hg : g = w'.heap.size) (hz : w''.heap[g]? = some z) (hb : Below w'.heap.size w' w'') :
  FQ w ga gb oa ob z t1 t2 t3 t4 c1 c2 true b6 (v1, v2, v3, v4, g, g6) w'' := by
 have k := h.step hb
 have la := blk_lt h.a
 have lb := blk_lt h.b
 have hs := below_size h.bel
 have hm : ∀ x, Apt ga gb false b6 g5 g6 x ∧ x ≠ g → Apt ga gb true b6 g g6 x := fun x hx => ⟨hx.1.1, hx.1.2.1, fun _ => hx.2, hx.1.2.2.2⟩
 refine ⟨k.a, k.b, k.la, k.lb, k.bel, fun e => ⟨FQ.elder (h.r1 e).1 hg hb hm, FQ.elder (h.r1 e).2 hg hb hm⟩, fun e => ⟨FQ.elder (h.r2 e).1 hg hb hm, FQ.elder (h.r2 e).2 hg hb hm⟩, fun _ => ⟨hz, (by simp only; omega), (by simp only; omega), (by simp only; omega)⟩, k.z6, fun _ e => ?_⟩
 have := blk_lt (h.z6 e).1
 simp only at this ⊢
 omega
theorem FQ.box6 (h : FQ w ga gb oa ob z t1 t2 t3 t4 c1 c2 b5 false (v1, v2, v3, v4, g5, g6) w') (hg : g = w'.heap.size) (hz : w''.heap[g]? = some z) (hb : Below w'.heap.size w' w'') :
  FQ w ga gb oa ob z t1 t2 t3 t4 c1 c2 b5 true (v1, v2, v3, v4, g5, g) w'' := by
 have k := h.step hb
 have la := blk_lt h.a
 have lb := blk_lt h.b
 have hs := below_size h.bel
 have hm : ∀ x, Apt ga gb b5 false g5 g6 x ∧ x ≠ g → Apt ga gb b5 true g5 g x := fun x hx => ⟨hx.1.1, hx.1.2.1, hx.1.2.2.1, fun _ => hx.2⟩
 refine ⟨k.a, k.b, k.la, k.lb, k.bel, fun e => ⟨FQ.elder (h.r1 e).1 hg hb hm, FQ.elder (h.r1 e).2 hg hb hm⟩, fun e => ⟨FQ.elder (h.r2 e).1 hg hb hm, FQ.elder (h.r2 e).2 hg hb hm⟩, k.z5, fun _ => ⟨hz, (by simp only; omega), (by simp only; omega), (by simp only; omega)⟩, fun e _ => ?_⟩
 have := blk_lt (h.z5 e).1
 simp only at this ⊢
 omega
theorem FQ.row {v : Value} {t : List Int} (h : Kd.V (Kd.int .u32) 117 w' w.heap.size (Apt ga gb true true g5 g6) v t) : Kd.V (Kd.int .u32) 117 w' w.heap.size (fun k => k ≠ ga ∧ k ≠ gb ∧ k ≠ g5 ∧ k ≠ g6) v t :=
 Kd.V_mono h fun k hk => ⟨hk.1, hk.2.1, hk.2.2.1 rfl, hk.2.2.2 rfl⟩
end
end Go.Proofs.Ytelklgdmhnkenaa.U
namespace Go.Proofs.Ytelklgdmhnkenaa.U
attribute [local go_sem] max2_int min2_int max_two min_two max_three min_three max_four min_four
def whole_trim.l0 : Nat → List Int → Option (List Int)
 | 0, _ => none
 | k + 1, x0 => if (x0.length : Int) > 0 then (if 0 ≤ (wrap64 ((x0.length : Int) - 1)) then (if (wrap64 ((x0.length : Int) - 1)) < (x0.length : Int) then (if (rd x0 (wrap64 ((x0.length : Int) - 1))) = 0 then (if (wrap64 ((x0.length : Int) - 1)) ≤ (x0.length : Int) then (whole_trim.l0 k (x0.take ((wrap64 ((x0.length : Int) - 1)) : Int).toNat)) else (none)) else (some x0)) else (none)) else (none)) else (some x0)
def whole_trim.f (k : Nat) (l0 : List Int) : Option (List Int) := whole_trim.l0 k l0
theorem whole_trim.mono_l : ∀ k, (∀ y0, LeO (whole_trim.l0 k y0) (whole_trim.l0 (k + 1) y0))
 | 0 => fun _ r h => by simp [whole_trim.l0] at h
 | k + 1 => by
  have ih0 := whole_trim.mono_l k
  ·intro y0
   unfold whole_trim.l0
   repeat' first
   | (with_reducible exact ih0 _)
   | (with_reducible exact LeO.refl _)
   | (with_reducible exact LeO.none _)
   | (with_reducible refine LeO.ite ?_ ?_)
   | (with_reducible refine LeO.bind ?_ (fun _ => ?_))
   | exact ih0 _
   | exact LeO.none _
   | refine LeO.ite ?_ ?_
   | refine LeO.bind ?_ (fun _ => ?_)
theorem whole_trim.mono : ∀ a0 k, LeO (whole_trim.f k a0) (whole_trim.f (k + 1) a0) := by
 intro a0 k
 have ih0 := whole_trim.mono_l k
 unfold whole_trim.f
 repeat' first
   | (with_reducible exact ih0 _)
   | (with_reducible exact LeO.refl _)
   | (with_reducible exact LeO.none _)
   | (with_reducible refine LeO.ite ?_ ?_)
   | (with_reducible refine LeO.bind ?_ (fun _ => ?_))
   | exact ih0 _
   | exact LeO.none _
   | refine LeO.ite ?_ ?_
   | refine LeO.bind ?_ (fun _ => ?_)
set_option maxHeartbeats 8000000 in
set_option maxRecDepth 100000 in
theorem whole_trim.calls (k : Nat) (P0_ : Nat → Prop) (A0 : Option Addr) (c0 : Nat) (l0 : List Int) (r : List Int) (w : World) (hs0 : Kd.V (Kd.int .u32) 117 w w.heap.size (fun k_ => P0_ k_) (.slice A0 l0.length c0) l0) (h : whole_trim.f k l0 = some r) :
  Calls Try.prog 88 #[.slice A0 l0.length c0] w fun e w' => ∃ v0_ : Value, e = .returned (v0_) ∧ Kd.V (Kd.int .u32) 117 w' w.heap.size (fun k_ => (P0_ k_ ∨ w.heap.size ≤ k_)) v0_ r ∧ Below w.heap.size w w' := by
 have HO0 := Aside0.mk (show Kd.V (Kd.int .u32) 117 w w.heap.size (fun k_ => (P0_ k_ ∨ w.heap.size ≤ k_)) (.slice A0 l0.length c0) l0 from Kd.V_mono hs0 (fun k_ hk => .inl hk))
 have HB := Aside0.mk (Below.refl w.heap.size w)
 have H : (whole_trim.l0 k l0) = some r := h
 clear h
 have H' := Aside0.mk H
 clear H
 go_enter Try.func88, Try.ntmps88
 go_wp2
 go_loopg [0] k (fun kq v0 w' => ∃ (x0_1 : List Int), Aside0 (whole_trim.l0 kq x0_1 = some r) ∧ Aside0 (kq ≤ k) ∧ Aside0 (Kd.V (Kd.int .u32) 117 w' w.heap.size (fun k_ => (P0_ k_ ∨ w.heap.size ≤ k_)) v0 x0_1) ∧ Aside0 (Below w.heap.size w w'))
 case atStart => exact ⟨(l0), H', ⟨Nat.le_refl _⟩, ⟨(by (with_reducible repeat (first | apply Kd.V_alloc | apply Kd.V_drewN | apply Kd.V_drew)); exact HO0.out)⟩, ⟨m_1⟩⟩
 case round =>
  clear H'
  obtain ⟨x0_1, HA, HK1, HO_0, HB⟩ := hrel
  cases gk with
  | zero => exact absurd HA.out (by simp [whole_trim.l0])
  | succ k1 =>
   have H := HA.out
   clear HA
   simp only [whole_trim.l0] at H
   by_cases c2 : (x0_1.length : Int) > 0
   ·rw [if_pos c2] at H
    have c2b1 : decide (0 < x0_1.length) = true := decide_eq_true (by omega)
    clear c2
    obtain ⟨ji3, hji3⟩ : ∃ j_ : Int, (wrap64 ((x0_1.length : Int) - 1)) = j_ := ⟨_, rfl⟩
    replace H : (if 0 ≤ (ji3) then (if (ji3) < (x0_1.length : Int) then (if (rd x0_1 (ji3)) = 0 then (if (ji3) ≤ (x0_1.length : Int) then (whole_trim.l0 k1 (x0_1.take ((ji3) : Int).toNat)) else (none)) else (some x0_1)) else (none)) else (none)) = some r := by first | (rw [hji3] at H; exact H) | (simp only [hji3] at H ⊢; exact H)
    have hji3w : (IntKind.i64.wrap ((x0_1.length : Int) - 1)) = ji3 := (i64_w _).trans hji3
    by_cases c4 : 0 ≤ (ji3)
    ·rw [if_pos c4] at H
     have c4b0 : decide (0 ≤ (ji3)) = true := decide_eq_true c4
     clear c4
     by_cases c5 : (ji3) < (x0_1.length : Int)
     ·rw [if_pos c5] at H
      have c5b0 : decide ((ji3) < (x0_1.length : Int)) = true := decide_eq_true c5
      clear c5
      by_cases c6 : (rd x0_1 (ji3)) = 0
      ·rw [if_pos c6] at H
       have c6b0 : ((rd x0_1 (ji3)) == 0) = true := beq_iff_eq.mpr c6
       clear c6
       have c7b0 := eq_true (of_decide_eq_true m_4 : 0 ≤ (ji3))
       by_cases c8 : (ji3) ≤ (x0_1.length : Int)
       ·rw [if_pos c8] at H
        have c8b1 : decide ((ji3) ≤ (x0_1.length : Int)) = true := decide_eq_true c8
        clear c8
        obtain ⟨y346, hy346⟩ : ∃ y_ : List Int, y_ = (x0_1.take ((ji3) : Int).toNat) := ⟨_, rfl⟩
        replace H : (whole_trim.l0 k1 y346) = some r := by first | (rw [hy346]; with_reducible exact H) | (have H2_ := (Option.bind_some _ _).symm.trans H; rw [hy346]; with_reducible exact H2_) | (have H2_ := (Option.bind_some _ _).symm.trans H; with_reducible exact H2_) | with_reducible exact H | (rw [hy346]; exact H) | exact H
        have Ny346 := Aside0.mk hy346
        clear hy346
        have H' := Aside0.mk H
        clear H
        obtain ⟨Ao9, co9, eo9⟩ := Kd.V_slice HO_0.out
        subst eo9
        have p345 : 0 ≤ ((ji3) : Int) := of_decide_eq_true m_4
        have q345 : (ji3) < (x0_1.length : Int) := of_decide_eq_true m_4
        obtain ⟨ad345, e345, hx345_0⟩ := Kd.at_int (Kd.V_reads' HO_0.out).2.2 (ji3) p345 q345
        cases e345
        replace q345 := eq_true q345
        have q10 : ((ji3) : Int) ≤ ((x0_1.length : Int) : Int) := of_decide_eq_true m_4
        obtain ⟨i010, hi010, _, hsz10, _⟩ := info_parts info117
        have hroom10 : x0_1.length ≤ co9 := (Kd.V_reads' HO_0.out).2.1
        have hC10 : Kd.F (Kd.int .u32) _ _ (some ad345) x0_1.length x0_1 := (Kd.V_at (base := w.heap.size) HO_0.out).2.2
        have hcut10 := cut_to (P := Try.prog) 62 117 .i64 Try.underlying62 hi010 (some ad345) x0_1.length co9 (ji3) (of_decide_eq_true m_4) q10 hroom10
        have hr10 := Kd.F_take (m := ((ji3) : Int).toNat) hC10 (by omega)
        have hy10 : y346.length = ((ji3) : Int).toNat := (by rw [Ny346.out, List.length_take]; omega)
        rw [← Ny346.out] at hr10
        rw [← hy10] at hcut10
        have HO350 := Aside0.mk (show Kd.V (Kd.int .u32) 117 _ w.heap.size _ (.slice (some ad345) y346.length co9) y346 from Kd.V_mk (by omega) hr10)
        clear hr10 hC10 hroom10 hi010 hsz10
        clear hy10
        go_wp2
        go_roundg k1
        case measure => have := HK1.out; omega
        case rel => exact ⟨(y346), H', ⟨m_119⟩, ⟨(by (with_reducible repeat (first | apply Kd.V_alloc | apply Kd.V_drewN | apply Kd.V_drew)); exact HO350.out)⟩, ⟨m_1⟩⟩
       ·rw [if_neg c8] at H
        exact absurd H (by simp)
      ·rw [if_neg c6] at H
       have c6b0 : ((rd x0_1 (ji3)) == 0) = false := beq_eq_false_iff_ne.mpr c6
       obtain rfl := Option.some.inj H
       obtain ⟨Ao11, co11, eo11⟩ := Kd.V_slice HO_0.out
       subst eo11
       have p345 : 0 ≤ ((ji3) : Int) := of_decide_eq_true m_4
       have q345 : (ji3) < (x0_1.length : Int) := of_decide_eq_true m_4
       obtain ⟨ad345, e345, hx345_0⟩ := Kd.at_int (Kd.V_reads' HO_0.out).2.2 (ji3) p345 q345
       cases e345
       replace p345 := eq_true p345
       replace q345 := eq_true q345
       go_wp2
       go_ret
       exact ⟨_, m_130, (by (with_reducible repeat (first | apply Kd.V_alloc | apply Kd.V_drewN | apply Kd.V_drew)); exact HO_0.out), m_1⟩
     ·rw [if_neg c5] at H
      exact absurd H (by simp)
    ·rw [if_neg c4] at H
     exact absurd H (by simp)
   ·rw [if_neg c2] at H
    have c2b1 : decide (0 < x0_1.length) = false := decide_eq_false (by omega)
    clear c2
    obtain rfl := Option.some.inj H
    obtain ⟨Ao12, co12, eo12⟩ := Kd.V_slice HO_0.out
    subst eo12
    go_wp2
    go_ret
    exact ⟨_, m_5, (by (with_reducible repeat (first | apply Kd.V_alloc | apply Kd.V_drewN | apply Kd.V_drew)); exact HO_0.out), m_1⟩
end Go.Proofs.Ytelklgdmhnkenaa.U
namespace Go.Proofs.Ytelklgdmhnkenaa.U
attribute [local go_sem] max2_int min2_int max_two min_two max_three min_three max_four min_four
def whole_made.f (k : Nat) (a0 : Bool) (l1 : List Int) : Option (Bool × List Int) := (whole_trim.f k l1).bind fun t352 => (if a0 = true then (some (decide ((t352.length : Int) > 0), t352)) else (some (false, t352)))
set_option maxHeartbeats 8000000 in
set_option maxRecDepth 100000 in
theorem whole_made.calls (k : Nat) (a0 : Bool) (P1_ : Nat → Prop) (A1 : Option Addr) (c1 : Nat) (l1 : List Int) (r1 : Bool) (r2 : List Int) (w : World) (hs1 : Kd.V (Kd.int .u32) 117 w w.heap.size (fun k_ => P1_ k_) (.slice A1 l1.length c1) l1) (h : whole_made.f k a0 l1 = some (r1, r2)) :
  Calls Try.prog 81 #[.bool a0, .slice A1 l1.length c1] w fun e w' => ∃ v1_ : Value, e = .returned (.agg #[.bool r1, v1_]) ∧ Kd.V (Kd.int .u32) 117 w' w.heap.size (fun k_ => (P1_ k_ ∨ w.heap.size ≤ k_)) v1_ r2 ∧ Below w.heap.size w w' := by
 have HO1 := Aside0.mk (show Kd.V (Kd.int .u32) 117 w w.heap.size (fun k_ => (P1_ k_ ∨ w.heap.size ≤ k_)) (.slice A1 l1.length c1) l1 from Kd.V_mono hs1 (fun k_ hk => .inl hk))
 have HB := Aside0.mk (Below.refl w.heap.size w)
 have H : ((whole_trim.f k l1).bind fun t352 => (if a0 = true then (some (decide ((t352.length : Int) > 0), t352)) else (some (false, t352)))) = some (r1, r2) := h
 clear h
 replace H := Option.bind_eq_some_iff.mp H
 obtain ⟨t352, A30, H⟩ := H
 replace H : (if a0 = true then (some (decide ((t352.length : Int) > 0), t352)) else (some (false, t352))) = some (r1, r2) := H
 have A3 := Aside0.mk A30
 clear A30
 by_cases c4 : a0 = true
 ·subst c4
  have H1 : (some (decide ((t352.length : Int) > 0), t352)) = some (r1, r2) := by rw [if_pos rfl] at H; exact H
  clear H
  have H := H1
  clear H1
  simp only [Option.some.injEq, Prod.mk.injEq] at H
  obtain ⟨rfl, rfl⟩ := H
  go_enter Try.func81, Try.ntmps81
  go_wp2_with (first | ((with_reducible refine gate_dst (N := 4) rfl ?_); (try (refine gate_guard (by rfl) ?_; dsimp only)); refine box_event ?hg (N := 4) ?hd (cs := #[.bool false, .slice none 0 0]) (t := 64) ?hr ?_; (case hd => rfl); (case hg => rfl); (case hr => exact hr_); intro gb351 hg w5 hbox hb; have BK351 := Aside0.mk (hbox); have GE351 := gW_ (w := w) hg m_1; replace HO1 := vE_ HO1 hg hb; replace HB := Aside0.mk (below_step m_1 hb); clear hb hbox hg) | ((with_reducible refine gate_callee (f := 88) rfl ?_); refine goesL_ (some 6) rfl rfl Try.func88 m_13 rfl #[.slice A1 l1.length c1] rfl m_2 ?_; (with_reducible refine (whole_trim.calls k (fun k_ => ((P1_ k_ ∨ w.heap.size ≤ k_) ∧ k_ ≠ gb351)) _ _ l1 t352 _ ?side1 A3.out).mono ?_); (case side1 => exact HO1.out); rintro e w6 ⟨v353, rfl, ho0, hb⟩; refine ⟨_, rfl, ?_⟩; have HO354 := Aside0.mk (Kd.V_lower (Kd.V_mono (ok' := fun k_ => (P1_ k_ ∨ w.heap.size ≤ k_) ∧ k_ ≠ gb351) ho0 (fun k_ hk_ => ⟨Or.elim hk_ (fun hs_ => hs_.1) (fun hn_ => (.inr (Nat.le_trans (below_size m_42) hn_))), Or.elim hk_ (fun hs_ => hs_.2) (fun hn_ => (Kd.freshB (bA_ BK351.out) k_ hn_))⟩)) (below_size m_42)); replace BK351 := bB_ BK351 hb; replace HB := Aside0.mk (below_step m_42 hb); clear hb; (try clear ho0); obtain ⟨Ao7, co7, eo7⟩ := Kd.V_slice HO354.out; subst eo7; obtain ⟨hcz8_0, hcz8_1, hfz8_0, hfz8_1⟩ := cf2_ BK351))
  try rw [show decide (0 < t352.length) = decide ((t352.length : Int) > 0) by simp]
  refine bodyPost_ret (results_cell_row rfl _ _ gb351 64 #[.bool (decide ((t352.length : Int) > 0)), .slice Ao7 t352.length co7] (0, 0) _ rfl (by (with_reducible repeat (first | refine blk_drewN ?_ _ | refine blk_drew ?_ | refine blk_alloc ?_ _)); refine blk_put (cs := #[.bool (decide ((t352.length : Int) > 0)), .slice none 0 0]) ?_ 1 _ rfl; (with_reducible repeat (first | refine blk_drewN ?_ _ | refine blk_drew ?_ | refine blk_alloc ?_ _)); refine blk_put (cs := #[.bool false, .slice none 0 0]) ?_ 0 _ rfl; (with_reducible repeat (first | refine blk_drewN ?_ _ | refine blk_drew ?_ | refine blk_alloc ?_ _)); exact BK351.out) Try.underlying64 rfl m_13) rfl ?_
  exact ⟨_, m_5, (by (with_reducible repeat (first | apply Kd.V_alloc | apply Kd.V_drewN | apply Kd.V_drew)); exact Kd.V_mono (Kd.V_far (p := ⟨gb351, 1, none⟩) (Kd.V_far (p := ⟨gb351, 0, none⟩) (Kd.V_mono HO354.out (fun k_ hk => (⟨hk, hk.2⟩ : _ ∧ k_ ≠ gb351))) (fun _ hk => hk.2) (.bool (decide ((t352.length : Int) > 0)))) (fun _ hk => hk.2) (.slice Ao7 t352.length co7)) (fun _ hk => hk.1.1)), m_42⟩
 ·replace c4 := Bool.eq_false_iff.mpr c4
  subst c4
  have H1 : (some (false, t352)) = some (r1, r2) := by rw [if_neg (show ¬ (false = true) by decide)] at H; exact H
  clear H
  have H := H1
  clear H1
  simp only [Option.some.injEq, Prod.mk.injEq] at H
  obtain ⟨rfl, rfl⟩ := H
  go_enter Try.func81, Try.ntmps81
  go_wp2_with (first | ((with_reducible refine gate_dst (N := 4) rfl ?_); (try (refine gate_guard (by rfl) ?_; dsimp only)); refine box_event ?hg (N := 4) ?hd (cs := #[.bool false, .slice none 0 0]) (t := 64) ?hr ?_; (case hd => rfl); (case hg => rfl); (case hr => exact hr_); intro gb351 hg w9 hbox hb; have BK351 := Aside0.mk (hbox); have GE351 := gW_ (w := w) hg m_1; replace HO1 := vE_ HO1 hg hb; replace HB := Aside0.mk (below_step m_1 hb); clear hb hbox hg) | ((with_reducible refine gate_callee (f := 88) rfl ?_); refine goesL_ (some 6) rfl rfl Try.func88 m_13 rfl #[.slice A1 l1.length c1] rfl m_2 ?_; (with_reducible refine (whole_trim.calls k (fun k_ => ((P1_ k_ ∨ w.heap.size ≤ k_) ∧ k_ ≠ gb351)) _ _ l1 t352 _ ?side1 A3.out).mono ?_); (case side1 => exact HO1.out); rintro e w10 ⟨v353, rfl, ho0, hb⟩; refine ⟨_, rfl, ?_⟩; have HO354 := Aside0.mk (Kd.V_lower (Kd.V_mono (ok' := fun k_ => (P1_ k_ ∨ w.heap.size ≤ k_) ∧ k_ ≠ gb351) ho0 (fun k_ hk_ => ⟨Or.elim hk_ (fun hs_ => hs_.1) (fun hn_ => (.inr (Nat.le_trans (below_size m_42) hn_))), Or.elim hk_ (fun hs_ => hs_.2) (fun hn_ => (Kd.freshB (bA_ BK351.out) k_ hn_))⟩)) (below_size m_42)); replace BK351 := bB_ BK351 hb; replace HB := Aside0.mk (below_step m_42 hb); clear hb; (try clear ho0); obtain ⟨Ao11, co11, eo11⟩ := Kd.V_slice HO354.out; subst eo11; obtain ⟨hcz12_0, hcz12_1, hfz12_0, hfz12_1⟩ := cf2_ BK351))
  refine bodyPost_ret (results_cell_row rfl _ _ gb351 64 #[.bool false, .slice Ao11 t352.length co11] (0, 0) _ rfl (by (with_reducible repeat (first | refine blk_drewN ?_ _ | refine blk_drew ?_ | refine blk_alloc ?_ _)); refine blk_put (cs := #[.bool false, .slice none 0 0]) ?_ 1 _ rfl; (with_reducible repeat (first | refine blk_drewN ?_ _ | refine blk_drew ?_ | refine blk_alloc ?_ _)); refine blk_put (cs := #[.bool false, .slice none 0 0]) ?_ 0 _ rfl; (with_reducible repeat (first | refine blk_drewN ?_ _ | refine blk_drew ?_ | refine blk_alloc ?_ _)); exact BK351.out) Try.underlying64 rfl m_13) rfl ?_
  exact ⟨_, m_5, (by (with_reducible repeat (first | apply Kd.V_alloc | apply Kd.V_drewN | apply Kd.V_drew)); exact Kd.V_mono (Kd.V_far (p := ⟨gb351, 1, none⟩) (Kd.V_far (p := ⟨gb351, 0, none⟩) (Kd.V_mono HO354.out (fun k_ hk => (⟨hk, hk.2⟩ : _ ∧ k_ ≠ gb351))) (fun _ hk => hk.2) (.bool false)) (fun _ hk => hk.2) (.slice Ao11 t352.length co11)) (fun _ hk => hk.1.1)), m_42⟩
end Go.Proofs.Ytelklgdmhnkenaa.U
namespace Go.Proofs.Ytelklgdmhnkenaa.U
attribute [local go_sem] max2_int min2_int max_two min_two max_three min_three max_four min_four
def whole_FromInt64.f (k : Nat) (a0 : Int) : Option (Bool × List Int) := if a0 < 0 then ((whole_made.f k (decide (a0 < 0)) (([(IntKind.u64.wrap (-(IntKind.u64.wrap (a0)))) % 4294967296, ((IntKind.u64.wrap (-(IntKind.u64.wrap (a0)))) / 4294967296) % 4294967296] : List Int))).bind fun bt359 => (some (bt359.1, bt359.2))) else ((whole_made.f k (decide (a0 < 0)) (([(IntKind.u64.wrap (a0)) % 4294967296, ((IntKind.u64.wrap (a0)) / 4294967296) % 4294967296] : List Int))).bind fun bt366 => (some (bt366.1, bt366.2)))
set_option maxHeartbeats 8000000 in
set_option maxRecDepth 100000 in
theorem whole_FromInt64.calls (k : Nat) (a0 : Int) (r1 : Bool) (r2 : List Int) (w : World) (h : whole_FromInt64.f k a0 = some (r1, r2)) :
  Calls Try.prog 63 #[.int .i64 a0] w fun e w' => ∃ v1_ : Value, e = .returned (.agg #[.bool r1, v1_]) ∧ Kd.V (Kd.int .u32) 117 w' w.heap.size (fun k_ => (w.heap.size ≤ k_)) v1_ r2 ∧ Below w.heap.size w w' := by
 have HB := Aside0.mk (Below.refl w.heap.size w)
 have H : (if a0 < 0 then ((whole_made.f k (decide (a0 < 0)) (([(IntKind.u64.wrap (-(IntKind.u64.wrap (a0)))) % 4294967296, ((IntKind.u64.wrap (-(IntKind.u64.wrap (a0)))) / 4294967296) % 4294967296] : List Int))).bind fun bt359 => (some (bt359.1, bt359.2))) else ((whole_made.f k (decide (a0 < 0)) (([(IntKind.u64.wrap (a0)) % 4294967296, ((IntKind.u64.wrap (a0)) / 4294967296) % 4294967296] : List Int))).bind fun bt366 => (some (bt366.1, bt366.2)))) = some (r1, r2) := h
 clear h
 by_cases c2 : a0 < 0
 ·rw [if_pos c2] at H
  have c2b0 : decide (a0 < 0) = true := decide_eq_true c2
  clear c2
  obtain ⟨y356, hy356⟩ : ∃ y_ : List Int, y_ = (([(IntKind.u64.wrap (-(IntKind.u64.wrap (a0)))) % 4294967296, ((IntKind.u64.wrap (-(IntKind.u64.wrap (a0)))) / 4294967296) % 4294967296] : List Int)) := ⟨_, rfl⟩
  replace H : ((whole_made.f k (decide (a0 < 0)) y356).bind fun bt359 => (some (bt359.1, bt359.2))) = some (r1, r2) := by first | (rw [hy356]; with_reducible exact H) | (have H2_ := (Option.bind_some _ _).symm.trans H; rw [hy356]; with_reducible exact H2_) | (have H2_ := (Option.bind_some _ _).symm.trans H; with_reducible exact H2_) | with_reducible exact H | (rw [hy356]; exact H) | exact H
  have Ny356 := Aside0.mk hy356
  clear hy356
  replace H := Option.bind_eq_some_iff.mp H
  obtain ⟨⟨t359, t360⟩, A30, H⟩ := H
  replace H : (some (t359, t360)) = some (r1, r2) := H
  rw [c2b0] at A30
  have A3 := Aside0.mk A30
  clear A30
  simp only [Option.some.injEq, Prod.mk.injEq] at H
  obtain ⟨rfl, rfl⟩ := H
  go_enter Try.func63, Try.ntmps63
  go_wp2_with (first | ((with_reducible refine gate_dst (N := 2) rfl ?_); refine box_event ?hg (N := 2) ?hd (cs := #[.bool false, .slice none 0 0]) (t := 64) ?hr ?_; (case hd => rfl); (case hg => rfl); (case hr => exact hr_); intro gb355 hg w4 hbox hb; have BK355 := Aside0.mk (hbox); have GE355 := gW_ (w := w) hg m_1; replace HB := Aside0.mk (below_step m_1 hb); clear hb hbox hg) | ((with_reducible refine gate_dst (N := 17) rfl ?_); refine Kd.R_lit (Kd.int .u32) _ 117 ?hg (N := 17) ?hd (xs := ([(IntKind.u64.wrap (-(IntKind.u64.wrap (a0)))) % 4294967296, ((IntKind.u64.wrap (-(IntKind.u64.wrap (a0)))) / 4294967296) % 4294967296] : List Int)) (inner := [.int .u32 ((IntKind.u64.wrap (-(IntKind.u64.wrap (a0)))) % 4294967296), .int .u32 (((IntKind.u64.wrap (-(IntKind.u64.wrap (a0)))) / 4294967296) % 4294967296)]) (ok := fun _ => True) (okp := fun _ => True) ?hr ?hp (fun _ hk => hk) trivial (Below.refl _ _) (Nat.le_refl _) (by simp) ?_; (case hd => rfl); (case hg => rfl); (case hr => exact hr_); (case hp => exact (Reps.one (show Kd.M (Kd.int .u32) _ _ _ ((IntKind.u64.wrap (-(IntKind.u64.wrap (a0)))) % 4294967296) [.int .u32 ((IntKind.u64.wrap (-(IntKind.u64.wrap (a0)))) % 4294967296)] from rfl) (Reps.one (show Kd.M (Kd.int .u32) _ _ _ (((IntKind.u64.wrap (-(IntKind.u64.wrap (a0)))) / 4294967296) % 4294967296) [.int .u32 (((IntKind.u64.wrap (-(IntKind.u64.wrap (a0)))) / 4294967296) % 4294967296)] from rfl) (Reps.none _ _)))); intro v357 w5 ho6 hb hg_ hnew_; clear hg_ hnew_; (first | rw [← Ny356.out] at ho6 | (simp only [Int.reduceToNat] at ho6; rw [← Ny356.out] at ho6)); have HO358 := Aside0.mk (Kd.R_lower (Kd.R_newM (M := fun k_ => (w.heap.size ≤ k_)) ho6 (below_size m_24) (fun k_ h_ => h_)) (below_size m_24)); replace BK355 := bB_ BK355 hb; replace HB := Aside0.mk (below_step m_24 hb); clear hb ho6; obtain ⟨Ao7, co7, eo7⟩ := Kd.R_slice HO358.out; subst eo7) | ((with_reducible refine gate_callee (f := 81) rfl ?_); refine goesL_ (some 18) rfl rfl Try.func81 m_13 rfl #[.bool true, .slice Ao7 y356.length co7] rfl m_2 ?_; (with_reducible refine (whole_made.calls k true (fun k_ => some k_ = (.slice Ao7 y356.length co7 : Value).ownBlock) _ _ y356 t359 t360 _ ?side1 A3.out).mono ?_); (case side1 => exact Kd.R_V (Kd.R_tight rfl (Kd.R_types (HO358.out) BK355.out (by decide)))); rintro e w8 ⟨v361, rfl, ho0, hb⟩; refine ⟨_, rfl, ?_⟩; have HO362 := Aside0.mk (Kd.V_lower (Kd.V_mono (ok' := fun k_ => (w.heap.size ≤ k_) ∧ k_ ≠ gb355) ho0 (fun k_ hk_ => ⟨Or.elim hk_ (fun hs_ => ((Kd.R_types (HO358.out) BK355.out (by decide)).1 k_ hs_.symm).1.1) (fun hn_ => (Nat.le_trans (below_size m_24) hn_)), Or.elim hk_ (fun hs_ => ((Kd.R_types (HO358.out) BK355.out (by decide)).1 k_ hs_.symm).2) (fun hn_ => (Kd.freshB (bA_ BK355.out) k_ hn_))⟩)) (below_size m_24)); replace BK355 := bB_ BK355 hb; replace HB := Aside0.mk (below_step m_24 hb); clear hb; (try clear ho0); obtain ⟨hcz9_0, hcz9_1, hfz9_0, hfz9_1⟩ := cf2_ BK355; obtain ⟨Ao10, co10, eo10⟩ := Kd.V_slice HO362.out; subst eo10))
  refine bodyPost_ret (results_cell_row rfl _ _ gb355 64 #[.bool t359, .slice Ao10 t360.length co10] (0, 0) _ rfl (by (with_reducible repeat (first | refine blk_drewN ?_ _ | refine blk_drew ?_ | refine blk_alloc ?_ _)); refine blk_put (cs := #[.bool t359, .slice none 0 0]) ?_ 1 _ rfl; (with_reducible repeat (first | refine blk_drewN ?_ _ | refine blk_drew ?_ | refine blk_alloc ?_ _)); refine blk_put (cs := #[.bool false, .slice none 0 0]) ?_ 0 _ rfl; (with_reducible repeat (first | refine blk_drewN ?_ _ | refine blk_drew ?_ | refine blk_alloc ?_ _)); exact BK355.out) Try.underlying64 rfl m_13) rfl ?_
  exact ⟨_, m_5, (by (with_reducible repeat (first | apply Kd.V_alloc | apply Kd.V_drewN | apply Kd.V_drew)); exact Kd.V_mono (Kd.V_far (p := ⟨gb355, 1, none⟩) (Kd.V_far (p := ⟨gb355, 0, none⟩) (Kd.V_mono HO362.out (fun k_ hk => (⟨hk, hk.2⟩ : _ ∧ k_ ≠ gb355))) (fun _ hk => hk.2) (.bool t359)) (fun _ hk => hk.2) (.slice Ao10 t360.length co10)) (fun _ hk => hk.1.1)), m_24⟩
 ·rw [if_neg c2] at H
  have c2b0 : decide (a0 < 0) = false := decide_eq_false c2
  clear c2
  obtain ⟨y363, hy363⟩ : ∃ y_ : List Int, y_ = (([(IntKind.u64.wrap (a0)) % 4294967296, ((IntKind.u64.wrap (a0)) / 4294967296) % 4294967296] : List Int)) := ⟨_, rfl⟩
  replace H : ((whole_made.f k (decide (a0 < 0)) y363).bind fun bt366 => (some (bt366.1, bt366.2))) = some (r1, r2) := by first | (rw [hy363]; with_reducible exact H) | (have H2_ := (Option.bind_some _ _).symm.trans H; rw [hy363]; with_reducible exact H2_) | (have H2_ := (Option.bind_some _ _).symm.trans H; with_reducible exact H2_) | with_reducible exact H | (rw [hy363]; exact H) | exact H
  have Ny363 := Aside0.mk hy363
  clear hy363
  replace H := Option.bind_eq_some_iff.mp H
  obtain ⟨⟨t366, t367⟩, A110, H⟩ := H
  replace H : (some (t366, t367)) = some (r1, r2) := H
  rw [c2b0] at A110
  have A11 := Aside0.mk A110
  clear A110
  simp only [Option.some.injEq, Prod.mk.injEq] at H
  obtain ⟨rfl, rfl⟩ := H
  go_enter Try.func63, Try.ntmps63
  go_wp2_with (first | ((with_reducible refine gate_dst (N := 2) rfl ?_); refine box_event ?hg (N := 2) ?hd (cs := #[.bool false, .slice none 0 0]) (t := 64) ?hr ?_; (case hd => rfl); (case hg => rfl); (case hr => exact hr_); intro gb355 hg w12 hbox hb; have BK355 := Aside0.mk (hbox); have GE355 := gW_ (w := w) hg m_1; replace HB := Aside0.mk (below_step m_1 hb); clear hb hbox hg) | ((with_reducible refine gate_dst (N := 17) rfl ?_); refine Kd.R_lit (Kd.int .u32) _ 117 ?hg (N := 17) ?hd (xs := ([(IntKind.u64.wrap (a0)) % 4294967296, ((IntKind.u64.wrap (a0)) / 4294967296) % 4294967296] : List Int)) (inner := [.int .u32 ((IntKind.u64.wrap (a0)) % 4294967296), .int .u32 (((IntKind.u64.wrap (a0)) / 4294967296) % 4294967296)]) (ok := fun _ => True) (okp := fun _ => True) ?hr ?hp (fun _ hk => hk) trivial (Below.refl _ _) (Nat.le_refl _) (by simp) ?_; (case hd => rfl); (case hg => rfl); (case hr => exact hr_); (case hp => exact (Reps.one (show Kd.M (Kd.int .u32) _ _ _ ((IntKind.u64.wrap (a0)) % 4294967296) [.int .u32 ((IntKind.u64.wrap (a0)) % 4294967296)] from rfl) (Reps.one (show Kd.M (Kd.int .u32) _ _ _ (((IntKind.u64.wrap (a0)) / 4294967296) % 4294967296) [.int .u32 (((IntKind.u64.wrap (a0)) / 4294967296) % 4294967296)] from rfl) (Reps.none _ _)))); intro v364 w13 ho14 hb hg_ hnew_; clear hg_ hnew_; (first | rw [← Ny363.out] at ho14 | (simp only [Int.reduceToNat] at ho14; rw [← Ny363.out] at ho14)); have HO365 := Aside0.mk (Kd.R_lower (Kd.R_newM (M := fun k_ => (w.heap.size ≤ k_)) ho14 (below_size m_24) (fun k_ h_ => h_)) (below_size m_24)); replace BK355 := bB_ BK355 hb; replace HB := Aside0.mk (below_step m_24 hb); clear hb ho14; obtain ⟨Ao15, co15, eo15⟩ := Kd.R_slice HO365.out; subst eo15) | ((with_reducible refine gate_callee (f := 81) rfl ?_); refine goesL_ (some 18) rfl rfl Try.func81 m_13 rfl #[.bool false, .slice Ao15 y363.length co15] rfl m_2 ?_; (with_reducible refine (whole_made.calls k false (fun k_ => some k_ = (.slice Ao15 y363.length co15 : Value).ownBlock) _ _ y363 t366 t367 _ ?side1 A11.out).mono ?_); (case side1 => exact Kd.R_V (Kd.R_tight rfl (Kd.R_types (HO365.out) BK355.out (by decide)))); rintro e w16 ⟨v368, rfl, ho0, hb⟩; refine ⟨_, rfl, ?_⟩; have HO369 := Aside0.mk (Kd.V_lower (Kd.V_mono (ok' := fun k_ => (w.heap.size ≤ k_) ∧ k_ ≠ gb355) ho0 (fun k_ hk_ => ⟨Or.elim hk_ (fun hs_ => ((Kd.R_types (HO365.out) BK355.out (by decide)).1 k_ hs_.symm).1.1) (fun hn_ => (Nat.le_trans (below_size m_24) hn_)), Or.elim hk_ (fun hs_ => ((Kd.R_types (HO365.out) BK355.out (by decide)).1 k_ hs_.symm).2) (fun hn_ => (Kd.freshB (bA_ BK355.out) k_ hn_))⟩)) (below_size m_24)); replace BK355 := bB_ BK355 hb; replace HB := Aside0.mk (below_step m_24 hb); clear hb; (try clear ho0); obtain ⟨hcz17_0, hcz17_1, hfz17_0, hfz17_1⟩ := cf2_ BK355; obtain ⟨Ao18, co18, eo18⟩ := Kd.V_slice HO369.out; subst eo18))
  refine bodyPost_ret (results_cell_row rfl _ _ gb355 64 #[.bool t366, .slice Ao18 t367.length co18] (0, 0) _ rfl (by (with_reducible repeat (first | refine blk_drewN ?_ _ | refine blk_drew ?_ | refine blk_alloc ?_ _)); refine blk_put (cs := #[.bool t366, .slice none 0 0]) ?_ 1 _ rfl; (with_reducible repeat (first | refine blk_drewN ?_ _ | refine blk_drew ?_ | refine blk_alloc ?_ _)); refine blk_put (cs := #[.bool false, .slice none 0 0]) ?_ 0 _ rfl; (with_reducible repeat (first | refine blk_drewN ?_ _ | refine blk_drew ?_ | refine blk_alloc ?_ _)); exact BK355.out) Try.underlying64 rfl m_13) rfl ?_
  exact ⟨_, m_5, (by (with_reducible repeat (first | apply Kd.V_alloc | apply Kd.V_drewN | apply Kd.V_drew)); exact Kd.V_mono (Kd.V_far (p := ⟨gb355, 1, none⟩) (Kd.V_far (p := ⟨gb355, 0, none⟩) (Kd.V_mono HO369.out (fun k_ hk => (⟨hk, hk.2⟩ : _ ∧ k_ ≠ gb355))) (fun _ hk => hk.2) (.bool t366)) (fun _ hk => hk.2) (.slice Ao18 t367.length co18)) (fun _ hk => hk.1.1)), m_24⟩
end Go.Proofs.Ytelklgdmhnkenaa.U
namespace Go.Proofs.Ytelklgdmhnkenaa.U
attribute [local go_sem] max2_int min2_int max_two min_two max_three min_three max_four min_four
def whole_Sign.f (k : Nat) (a0_0 : Bool) (l0_1 : List Int) : Option (Int) := (whole_trim.f k l0_1).bind fun t376 => (if (t376.length : Int) = 0 then (some 0) else (if a0_0 = true then (some (-1)) else (some 1)))
set_option maxHeartbeats 8000000 in
set_option maxRecDepth 100000 in
theorem whole_Sign.calls (k : Nat) (a0_0 : Bool) (A0_1 : Option Addr) (c0_1 : Nat) (l0_1 : List Int) (r : Int) (w : World) (hr0_1 : Kd.C (Kd.int .u32) w A0_1 l0_1.length l0_1) (hc0_1 : l0_1.length ≤ c0_1) (h : whole_Sign.f k a0_0 l0_1 = some r) :
  Calls Try.prog 96 #[.agg #[.bool a0_0, .slice A0_1 l0_1.length c0_1]] w fun e w' => e = .returned (.int .i64 r) ∧ Below w.heap.size w w' := by
 have HR0_1 := Aside0.mk hr0_1
 have HC0_1 := Aside0.mk hc0_1
 clear hr0_1 hc0_1
 have HB := Aside0.mk (Below.refl w.heap.size w)
 have H : ((whole_trim.f k l0_1).bind fun t376 => (if (t376.length : Int) = 0 then (some 0) else (if a0_0 = true then (some (-1)) else (some 1)))) = some r := h
 clear h
 replace H := Option.bind_eq_some_iff.mp H
 obtain ⟨t376, A20, H⟩ := H
 replace H : (if (t376.length : Int) = 0 then (some 0) else (if a0_0 = true then (some (-1)) else (some 1))) = some r := H
 have A2 := Aside0.mk A20
 clear A20
 by_cases c3 : (t376.length : Int) = 0
 ·rw [if_pos c3] at H
  have c3b0 : ((t376.length : Int) == 0) = true := beq_iff_eq.mpr c3
  clear c3
  obtain rfl := Option.some.inj H
  go_enter Try.func96, Try.ntmps96
  go_wp2_with (first | ((with_reducible refine gate_dst (N := 1) rfl ?_); refine box_event ?hg (N := 1) ?hd (cs := #[.bool a0_0, .slice A0_1 l0_1.length c0_1]) (t := 64) ?hr ?_; (case hd => rfl); (case hg => rfl); (case hr => exact hr_); intro gb375 hg w4 hbox hb; have BK375 := Aside0.mk (hbox); have GW375 := gW_ (w := w) hg m_1; replace HB := Aside0.mk (below_step m_1 hb); clear hb hbox hg; obtain ⟨hcz5_0, hcz5_1, hfz5_0, hfz5_1⟩ := cf2_ BK375) | ((with_reducible refine gate_callee (f := 88) rfl ?_); refine goesL_ (some 6) rfl rfl Try.func88 m_13 rfl #[.slice A0_1 l0_1.length c0_1] rfl m_2 ?_; (with_reducible refine (whole_trim.calls k (fun k_ => k_ < w.heap.size) _ _ l0_1 t376 _ ?side1 A2.out).mono ?_); (case side1 => exact Kd.V_mk HC0_1.out (Kd.F_below (Kd.C_F (Kd.heap_int .u32) HR0_1.out) m_29)); rintro e w6 ⟨v377, rfl, ho0, hb⟩; refine ⟨_, rfl, ?_⟩; have HO378 := Aside0.mk (Kd.V_lower (Kd.V_mono (ok' := fun k_ => k_ ≠ gb375) ho0 (fun k_ hk_ => Or.elim hk_ (fun hs_ => fun e_ => Nat.not_le.2 hs_ (by rw [e_]; exact GW375.out)) (fun hn_ => (Kd.freshB (bA_ BK375.out) k_ hn_)))) (below_size m_29)); replace HB := Aside0.mk (below_step m_29 hb); clear hb; (try clear ho0); obtain ⟨Ao7, co7, eo7⟩ := Kd.V_slice HO378.out; subst eo7))
  go_ret
  exact ⟨m_5, m_29⟩
 ·rw [if_neg c3] at H
  have c3b0 : ((t376.length : Int) == 0) = false := beq_eq_false_iff_ne.mpr c3
  by_cases c8 : a0_0 = true
  ·subst c8
   have H1 : (some (-1)) = some r := by rw [if_pos rfl] at H; exact H
   clear H
   have H := H1
   clear H1
   obtain rfl := Option.some.inj H
   go_enter Try.func96, Try.ntmps96
   go_wp2_with (first | ((with_reducible refine gate_dst (N := 1) rfl ?_); refine box_event ?hg (N := 1) ?hd (cs := #[.bool true, .slice A0_1 l0_1.length c0_1]) (t := 64) ?hr ?_; (case hd => rfl); (case hg => rfl); (case hr => exact hr_); intro gb375 hg w9 hbox hb; have BK375 := Aside0.mk (hbox); have GW375 := gW_ (w := w) hg m_1; replace HB := Aside0.mk (below_step m_1 hb); clear hb hbox hg; obtain ⟨hcz10_0, hcz10_1, hfz10_0, hfz10_1⟩ := cf2_ BK375) | ((with_reducible refine gate_callee (f := 88) rfl ?_); refine goesL_ (some 6) rfl rfl Try.func88 m_13 rfl #[.slice A0_1 l0_1.length c0_1] rfl m_2 ?_; (with_reducible refine (whole_trim.calls k (fun k_ => k_ < w.heap.size) _ _ l0_1 t376 _ ?side1 A2.out).mono ?_); (case side1 => exact Kd.V_mk HC0_1.out (Kd.F_below (Kd.C_F (Kd.heap_int .u32) HR0_1.out) m_29)); rintro e w11 ⟨v377, rfl, ho0, hb⟩; refine ⟨_, rfl, ?_⟩; have HO378 := Aside0.mk (Kd.V_lower (Kd.V_mono (ok' := fun k_ => k_ ≠ gb375) ho0 (fun k_ hk_ => Or.elim hk_ (fun hs_ => fun e_ => Nat.not_le.2 hs_ (by rw [e_]; exact GW375.out)) (fun hn_ => (Kd.freshB (bA_ BK375.out) k_ hn_)))) (below_size m_29)); replace BK375 := bB_ BK375 hb; replace HB := Aside0.mk (below_step m_29 hb); clear hb; (try clear ho0); obtain ⟨Ao12, co12, eo12⟩ := Kd.V_slice HO378.out; subst eo12; obtain ⟨hcz13_0, hcz13_1, hfz13_0, hfz13_1⟩ := cf2_ BK375))
   go_ret
   exact ⟨m_5, m_29⟩
  ·replace c8 := Bool.eq_false_iff.mpr c8
   subst c8
   have H1 : (some 1) = some r := by rw [if_neg (show ¬ (false = true) by decide)] at H; exact H
   clear H
   have H := H1
   clear H1
   obtain rfl := Option.some.inj H
   go_enter Try.func96, Try.ntmps96
   go_wp2_with (first | ((with_reducible refine gate_dst (N := 1) rfl ?_); refine box_event ?hg (N := 1) ?hd (cs := #[.bool false, .slice A0_1 l0_1.length c0_1]) (t := 64) ?hr ?_; (case hd => rfl); (case hg => rfl); (case hr => exact hr_); intro gb375 hg w14 hbox hb; have BK375 := Aside0.mk (hbox); have GW375 := gW_ (w := w) hg m_1; replace HB := Aside0.mk (below_step m_1 hb); clear hb hbox hg; obtain ⟨hcz15_0, hcz15_1, hfz15_0, hfz15_1⟩ := cf2_ BK375) | ((with_reducible refine gate_callee (f := 88) rfl ?_); refine goesL_ (some 6) rfl rfl Try.func88 m_13 rfl #[.slice A0_1 l0_1.length c0_1] rfl m_2 ?_; (with_reducible refine (whole_trim.calls k (fun k_ => k_ < w.heap.size) _ _ l0_1 t376 _ ?side1 A2.out).mono ?_); (case side1 => exact Kd.V_mk HC0_1.out (Kd.F_below (Kd.C_F (Kd.heap_int .u32) HR0_1.out) m_29)); rintro e w16 ⟨v377, rfl, ho0, hb⟩; refine ⟨_, rfl, ?_⟩; have HO378 := Aside0.mk (Kd.V_lower (Kd.V_mono (ok' := fun k_ => k_ ≠ gb375) ho0 (fun k_ hk_ => Or.elim hk_ (fun hs_ => fun e_ => Nat.not_le.2 hs_ (by rw [e_]; exact GW375.out)) (fun hn_ => (Kd.freshB (bA_ BK375.out) k_ hn_)))) (below_size m_29)); replace BK375 := bB_ BK375 hb; replace HB := Aside0.mk (below_step m_29 hb); clear hb; (try clear ho0); obtain ⟨Ao17, co17, eo17⟩ := Kd.V_slice HO378.out; subst eo17; obtain ⟨hcz18_0, hcz18_1, hfz18_0, hfz18_1⟩ := cf2_ BK375))
   go_ret
   exact ⟨m_5, m_29⟩
set_option maxHeartbeats 4000000 in
theorem clone_words (ad : Addr) (c : Nat) (l : List Int) (w : World) (hC : Kd.C (Kd.int .u32) w (some ad) l.length l) (hc : l.length ≤ c) (hl : l.length < 1000000000000) :
  Calls Try.prog 125 #[.slice (some ad) l.length c] w fun e w' => ∃ v, e = .returned v ∧ Kd.R (Kd.int .u32) 117 w' w.heap.size (fun _ => True) v l ∧ Below w.heap.size w w' := by
 have hu32 := Try.underlying62
 have HR := Aside0.mk hC
 have HL := Aside0.mk hl
 clear hC hl
 have HB := Aside0.mk (Below.refl w.heap.size w)
 have hnil := fun W => Lib.run_eql_slice_nil (P := Try.prog) W 62 117 (some ad) l.length c 0 0 Try.underlying62
 go_enter Try.func125, Try.ntmps125
 go_wp2_with (first | ((with_reducible refine gate_dst (N := 5) rfl ?_); refine Kd.R_lit (Kd.int .u32) w.heap.size 117 ?hg (N := 5) ?hd (xs := ([] : List Int)) (inner := []) (ok := fun _ => True) (okp := fun _ => True) ?hr ?hp (fun _ hk => hk) trivial HB.out (Nat.le_refl _) (by simp) ?_; (case hd => rfl); (case hg => rfl); (case hr => exact hr_); (case hp => exact Reps.none _ _); intro v1 w1 ho hb hg_ hnew_; clear hg_ hnew_; have HO := Aside0.mk ho; clear HB; have HB := Aside0.mk hb; have HR1 := Aside0.mk (Kd.C_below HR.out hb); clear hb ho) | ((with_reducible refine gate_builtin (b := .append) (xs := #[.tmp 5, .tmp 6]) rfl ?_); at_builtin; refine Kd.R_append_rows (Kd.int .u32) (w0 := w) w.heap.size rfl (.tmp 5) (.tmp 6) 62 117 (.int .u32 0) 4 rfl Try.underlying62 info117 rfl (by decide) (by omega) v1 [] l _ _ _ (fun _ => True) (fun _ => False) rfl rfl ?aO ?aR (fun _ _ h => h) (fun _ h => h.elim) ?aF ?aB ?aS ?aL ?_; (case aR => exact HR1.out); (case aB => exact HB.out); (case aF => exact (fun _ _ => trivial)); (case aO => exact HO.out); (case aS => exact HB.out.size); (case aL => have := HL.out; simp; omega); intro v2 w2 ho hb hg hat; rw [List.nil_append] at ho; have HO2 := Aside0.mk ho; have HB2 := Aside0.mk hb; clear ho hb hg hat))
 go_ret
 exact ⟨_, rfl, HO2.out, HB2.out⟩
set_option maxHeartbeats 4000000 in
theorem clone_nil (c : Nat) (w : World) : Calls Try.prog 125 #[.slice none 0 c] w fun e w' => e = .returned (.slice none 0 0) ∧ Below w.heap.size w w' := by
 have hu32 := Try.underlying62
 have hnil := fun W => Lib.run_eql_slice_nil (P := Try.prog) W 62 117 none 0 c 0 0 Try.underlying62
 go_enter Try.func125, Try.ntmps125
 go_wp2
 go_ret
 exact ⟨rfl, Below.refl _ _⟩
def slices_Clone_uint32_uint32.f (l0 : List Int) : Option (List Int) := if l0.length < 1000000000000 then some l0 else none
theorem slices_Clone_uint32_uint32.calls (A0 : Option Addr) (c0 : Nat) (l0 : List Int) (r : List Int) (w : World) (hr0 : Kd.C (Kd.int .u32) w A0 l0.length l0) (hc0 : l0.length ≤ c0) (h : slices_Clone_uint32_uint32.f l0 = some r) :
  Calls Try.prog 125 #[.slice A0 l0.length c0] w fun e w' => ∃ v0_ : Value, e = .returned (v0_) ∧ Kd.R (Kd.int .u32) 117 w' w.heap.size (fun _ => True) v0_ r ∧ Below w.heap.size w w' := by
 unfold slices_Clone_uint32_uint32.f at h
 by_cases hl : l0.length < 1000000000000
 ·rw [if_pos hl] at h
  obtain rfl := Option.some.inj h
  cases A0 with
  | some ad => exact clone_words ad c0 l0 w hr0 hc0 hl
  | none =>
   have h0 : l0 = [] := by
    rcases Nat.eq_zero_or_pos l0.length with hz | hz
    ·exact List.eq_nil_of_length_eq_zero hz
    ·obtain ⟨ad, e, _⟩ := hr0.2.2 hz
     cases e
   subst h0
   refine (clone_nil c0 w).mono ?_
   rintro e w' ⟨rfl, hb⟩
   exact ⟨_, rfl, Kd.R_nil _ _ _ _ _, hb⟩
 ·rw [if_neg hl] at h
  cases h
end Go.Proofs.Ytelklgdmhnkenaa.U
namespace Go.Proofs.Ytelklgdmhnkenaa.U
attribute [local go_sem] max2_int min2_int max_two min_two max_three min_three max_four min_four
def whole_Neg.T1 : Bool × List (List Nat × List Nat) := (true, [([], []), ([0], [0]), ([1], [1]), ([], []), ([3], [3]), ([4], [4]), ([2, 5, 5], [2, 5]), ([6, 6, 0, 1, 2, 3, 4, 5, 6], [6])])
def whole_Neg.B1 : List Nat := [0, 1, 3, 0, 8, 24, 63, 127]
theorem whole_Neg.tab1 : rtab .any (opsOf Try.f105 1) = whole_Neg.T1 := by kernel_rfl
theorem whole_Neg.bits1 : waitsOk whole_Neg.T1.2 whole_Neg.B1 = true := by kernel_rfl
end Go.Proofs.Ytelklgdmhnkenaa.U
namespace Go.Proofs.Ytelklgdmhnkenaa.U
attribute [local go_sem] max2_int min2_int max_two min_two max_three min_three max_four min_four
def fracK_of.f (k : Nat) (a0_0 : Bool) (l0_1 : List Int) (a0_2 : Bool) (l0_3 : List Int) : Option (Bool × List Int × Bool × List Int) := (whole_Sign.f k a0_2 l0_3).bind fun t390 => (if t390 = 0 then ((whole_FromInt64.f k 1).bind fun bt391 => (some (a0_0, l0_1, bt391.1, bt391.2))) else (none))
set_option maxHeartbeats 8000000 in
set_option maxRecDepth 100000 in
theorem fracK_of.calls (k : Nat) (a0_0 : Bool) (P0_1_ : Nat → Prop) (A0_1 : Option Addr) (c0_1 : Nat) (l0_1 : List Int) (a0_2 : Bool) (P0_3_ : Nat → Prop) (A0_3 : Option Addr) (c0_3 : Nat) (l0_3 : List Int) (r1 : Bool) (r2 : List Int) (r3 : Bool) (r4 : List Int) (w : World) (hs0_1 : Kd.V (Kd.int .u32) 117 w w.heap.size (fun k_ => P0_1_ k_) (.slice A0_1 l0_1.length c0_1) l0_1) (hs0_3 : Kd.V (Kd.int .u32) 117 w w.heap.size (fun k_ => P0_3_ k_) (.slice A0_3 l0_3.length c0_3) l0_3) (h : fracK_of.f k a0_0 l0_1 a0_2 l0_3 = some (r1, r2, r3, r4)) :
  Calls Try.prog 82 #[.agg #[.bool a0_0, .slice A0_1 l0_1.length c0_1, .bool a0_2, .slice A0_3 l0_3.length c0_3]] w fun e w' => ∃ v1_ v3_ : Value, e = .returned (.agg #[.bool r1, v1_, .bool r3, v3_]) ∧ Kd.V (Kd.int .u32) 117 w' w.heap.size (fun k_ => ((P0_1_ k_ ∨ P0_3_ k_) ∨ w.heap.size ≤ k_)) v1_ r2 ∧ Kd.V (Kd.int .u32) 117 w' w.heap.size (fun k_ => ((P0_1_ k_ ∨ P0_3_ k_) ∨ w.heap.size ≤ k_)) v3_ r4 ∧ Below w.heap.size w w' := by
 have HO0_1 := Aside0.mk (show Kd.V (Kd.int .u32) 117 w w.heap.size (fun k_ => ((P0_1_ k_ ∨ P0_3_ k_) ∨ w.heap.size ≤ k_)) (.slice A0_1 l0_1.length c0_1) l0_1 from Kd.V_mono hs0_1 (fun k_ hk => .inl (.inl hk)))
 have HO0_3 := Aside0.mk (show Kd.V (Kd.int .u32) 117 w w.heap.size (fun k_ => ((P0_1_ k_ ∨ P0_3_ k_) ∨ w.heap.size ≤ k_)) (.slice A0_3 l0_3.length c0_3) l0_3 from Kd.V_mono hs0_3 (fun k_ hk => .inl (.inr hk)))
 have HB := Aside0.mk (Below.refl w.heap.size w)
 have H : ((whole_Sign.f k a0_2 l0_3).bind fun t390 => (if t390 = 0 then ((whole_FromInt64.f k 1).bind fun bt391 => (some (a0_0, l0_1, bt391.1, bt391.2))) else (none))) = some (r1, r2, r3, r4) := h
 clear h
 replace H := Option.bind_eq_some_iff.mp H
 obtain ⟨t390, A20, H⟩ := H
 replace H : (if t390 = 0 then ((whole_FromInt64.f k 1).bind fun bt391 => (some (a0_0, l0_1, bt391.1, bt391.2))) else (none)) = some (r1, r2, r3, r4) := H
 have A2 := Aside0.mk A20
 clear A20
 by_cases c3 : t390 = 0
 ·rw [if_pos c3] at H
  have c3b0 : (t390 == 0) = true := beq_iff_eq.mpr c3
  clear c3
  replace H := Option.bind_eq_some_iff.mp H
  obtain ⟨⟨t391, t392⟩, A40, H⟩ := H
  replace H : (some (a0_0, l0_1, t391, t392)) = some (r1, r2, r3, r4) := H
  have A4 := Aside0.mk A40
  clear A40
  simp only [Option.some.injEq, Prod.mk.injEq] at H
  obtain ⟨rfl, rfl, rfl, rfl⟩ := H
  go_enter Try.func82, Try.ntmps82
  try go_wp2_with (first | ((with_reducible refine gate_dst (N := 1) rfl ?_); refine box_event ?hg (N := 1) ?hd (cs := #[.bool a0_0, .slice A0_1 l0_1.length c0_1, .bool a0_2, .slice A0_3 l0_3.length c0_3]) (t := 66) ?hr ?_; (case hd => rfl); (case hg => rfl); (case hr => exact hr_); intro gb388 hg w5 hbox hb; have BK388 := Aside0.mk (hbox); replace HO0_1 := vE_ HO0_1 hg hb; replace HO0_3 := vE_ HO0_3 hg hb; replace HB := Aside0.mk (below_step m_1 hb); clear hb hbox hg) | ((with_reducible refine gate_dst (N := 2) rfl ?_); refine box_event ?hg (N := 2) ?hd (cs := #[.bool false, .slice none 0 0, .bool false, .slice none 0 0]) (t := 120) ?hr ?_; (case hd => rfl); (case hg => rfl); (case hr => exact hr_); intro gb389 hg w6 hbox hb; have BK389 := Aside0.mk (hbox); have GE389 := gW_ (w := w) hg m_108; have NB388_389 := nl_ BK388 hg; replace HO0_1 := vE_ HO0_1 hg hb; replace HO0_3 := vE_ HO0_3 hg hb; replace BK388 := bB_ BK388 hb; replace HB := Aside0.mk (below_step m_108 hb); clear hb hbox hg; obtain ⟨hcz8_0, hcz8_1, hcz8_2, hcz8_3, hfz8_0, hfz8_1, hfz8_2, hfz8_3⟩ := cf4_ BK388) | ((with_reducible refine gate_callee (f := 96) rfl ?_); refine goesL_ (some 5) rfl rfl Try.func96 m_13 rfl #[.agg #[.bool a0_2, .slice A0_3 l0_3.length c0_3]] rfl m_2 ?_; (with_reducible refine (whole_Sign.calls k a0_2 _ _ l0_3 t390 _ ?side1 ?side2 A2.out).mono ?_); (case side1 => exact cA_ (Kd.V_reads' HO0_3.out).2.2); (case side2 => exact (Kd.V_reads' HO0_3.out).2.1); rintro e w9 ⟨rfl, hb⟩; refine ⟨_, rfl, ?_⟩; replace HO0_1 := vB_ HO0_1 hb; replace BK388 := bB_ BK388 hb; replace BK389 := bB_ BK389 hb; replace HB := Aside0.mk (below_step m_59 hb); clear hb))
  replace HO0_1 := vD_ HO0_1
  replace BK388 := bD_ BK388
  replace BK389 := bD_ BK389
  replace HB := Aside0.mk (below_drew1 HB.out)
  refine start_ (n := 5) (S := fun w' => w'.cell? ⟨gb388, 0, none⟩ = some (.bool a0_0) ∧ w'.cell? ⟨gb388, 1, none⟩ = some (.slice A0_1 l0_1.length c0_1) ∧ w'.cell? ⟨gb388, 2, none⟩ = some (.bool a0_2) ∧ w'.cell? ⟨gb388, 3, none⟩ = some (.slice A0_3 l0_3.length c0_3)) (ds := []) #[false, false, false, false, false] m_13 rfl rfl ⟨(blk_cell BK388.out 0).trans rfl, (blk_cell BK388.out 1).trans rfl, (blk_cell BK388.out 2).trans rfl, (blk_cell BK388.out 3).trans rfl⟩ (fun hHeld => ?_)
  generalize w9.drew = w10 at HO0_1 BK388 BK389 HB hHeld ⊢
  refine pB_ 0 ?_
  refine tB_ 1 hHeld ?_
  refine cB_1 2 Try.func63 (args := #[.int .i64 1]) ?_
  with_reducible refine (whole_FromInt64.calls k 1 t391 t392 _ A4.out).mono ?_
  rintro e w11 ⟨v393, rfl, ho0, hb⟩
  refine ⟨_, rfl, ?_⟩
  have HO394 := Aside0.mk (Kd.V_lower (Kd.V_mono (ok' := fun k_ => ((P0_1_ k_ ∨ P0_3_ k_) ∨ w.heap.size ≤ k_) ∧ k_ ≠ gb388 ∧ k_ ≠ gb389) ho0 (fun k_ hk_ => ⟨(.inr (Nat.le_trans (below_size m_59) hk_)), (Kd.freshB (bA_ BK388.out) k_ hk_), (Kd.freshB (bA_ BK389.out) k_ hk_)⟩)) (below_size m_59))
  replace HO0_1 := vB_ HO0_1 hb
  replace BK388 := bB_ BK388 hb
  replace BK389 := bB_ BK389 hb
  replace HB := Aside0.mk (below_step m_59 hb)
  (try clear hb); (try clear hb2); (try clear hk); (try clear hi); (try clear ho0)
  obtain ⟨Ao12, co12, eo12⟩ := Kd.V_slice HO394.out
  (first | subst eo12 | (injection eo12 with f1_ f2_ f3_; have f4_ := f1_.symm; have f5_ := f3_.symm; clear f1_ f2_ f3_; subst f4_; subst f5_))
  refine nx_ ⟨(blk_cell BK388.out 0).trans rfl, (blk_cell BK388.out 1).trans rfl, (blk_cell BK388.out 2).trans rfl, (blk_cell BK388.out 3).trans rfl⟩ (fun hHeld => ?_)
  refine pB_ 3 ?_
  refine one_ (i := 4) (N := none) #[true, true, true, true, true] rfl rfl m_13 (by decide) (fun K hK => ?_)
  have hs13 : w11.cell? ⟨gb389, 0, none⟩ = some (.bool false) := (blk_cell BK389.out 0).trans rfl
  have hfs13 := blk_frozen BK389.out 0
  have hs14 : w11.cell? ⟨gb389, 1, none⟩ = some (.slice none 0 0) := (blk_cell BK389.out 1).trans rfl
  have hfs14 := blk_frozen BK389.out 1
  have hs15 : w11.cell? ⟨gb389, 2, none⟩ = some (.bool false) := (blk_cell BK389.out 2).trans rfl
  have hfs15 := blk_frozen BK389.out 2
  have hs16 : w11.cell? ⟨gb389, 3, none⟩ = some (.slice none 0 0) := (blk_cell BK389.out 3).trans rfl
  have hfs16 := blk_frozen BK389.out 3
  refine skip_ (w1 := ?_) (by rfl) rfl ?_ ?_
  rotate_left
  ·go_simp
   rfl
  refine hK.out _ _ ⟨((cell_far (p := ⟨gb389, _, none⟩) NB388_389.out _).trans (((cell_far (p := ⟨gb389, _, none⟩) NB388_389.out _).trans (((cell_far (p := ⟨gb389, _, none⟩) NB388_389.out _).trans (((cell_far (p := ⟨gb389, _, none⟩) NB388_389.out _).trans (hHeld.1)))))))), ((cell_far (p := ⟨gb389, _, none⟩) NB388_389.out _).trans (((cell_far (p := ⟨gb389, _, none⟩) NB388_389.out _).trans (((cell_far (p := ⟨gb389, _, none⟩) NB388_389.out _).trans (((cell_far (p := ⟨gb389, _, none⟩) NB388_389.out _).trans (hHeld.2.1)))))))), ((cell_far (p := ⟨gb389, _, none⟩) NB388_389.out _).trans (((cell_far (p := ⟨gb389, _, none⟩) NB388_389.out _).trans (((cell_far (p := ⟨gb389, _, none⟩) NB388_389.out _).trans (((cell_far (p := ⟨gb389, _, none⟩) NB388_389.out _).trans (hHeld.2.2.1)))))))), ((cell_far (p := ⟨gb389, _, none⟩) NB388_389.out _).trans (((cell_far (p := ⟨gb389, _, none⟩) NB388_389.out _).trans (((cell_far (p := ⟨gb389, _, none⟩) NB388_389.out _).trans (((cell_far (p := ⟨gb389, _, none⟩) NB388_389.out _).trans (hHeld.2.2.2))))))))⟩ (fun hHeld => ?_)
  clear hK K
  refine done_ m_13 ?_
  try go_wp2
  refine bodyPost_ret (results_cell_row rfl _ _ gb389 120 #[.bool a0_0, .slice A0_1 l0_1.length c0_1, .bool t391, .slice Ao12 t392.length co12] (0, 0) _ rfl (by (with_reducible repeat (first | refine blk_drewN ?_ _ | refine blk_drew ?_ | refine blk_alloc ?_ _)); refine blk_put (cs := #[.bool a0_0, .slice A0_1 l0_1.length c0_1, .bool t391, .slice none 0 0]) ?_ 3 _ rfl; (with_reducible repeat (first | refine blk_drewN ?_ _ | refine blk_drew ?_ | refine blk_alloc ?_ _)); refine blk_put (cs := #[.bool a0_0, .slice A0_1 l0_1.length c0_1, .bool false, .slice none 0 0]) ?_ 2 _ rfl; (with_reducible repeat (first | refine blk_drewN ?_ _ | refine blk_drew ?_ | refine blk_alloc ?_ _)); refine blk_put (cs := #[.bool a0_0, .slice none 0 0, .bool false, .slice none 0 0]) ?_ 1 _ rfl; (with_reducible repeat (first | refine blk_drewN ?_ _ | refine blk_drew ?_ | refine blk_alloc ?_ _)); refine blk_put (cs := #[.bool false, .slice none 0 0, .bool false, .slice none 0 0]) ?_ 0 _ rfl; (with_reducible repeat (first | refine blk_drewN ?_ _ | refine blk_drew ?_ | refine blk_alloc ?_ _)); exact BK389.out) Try.underlying120 rfl m_13) rfl ?_
  exact ⟨_, _, m_5, (by (with_reducible repeat (first | apply Kd.V_alloc | apply Kd.V_drewN | apply Kd.V_drew)); exact Kd.V_mono (Kd.V_far (p := ⟨gb389, 3, none⟩) (Kd.V_far (p := ⟨gb389, 2, none⟩) (Kd.V_far (p := ⟨gb389, 1, none⟩) (Kd.V_far (p := ⟨gb389, 0, none⟩) (Kd.V_mono HO0_1.out (fun k_ hk => (⟨hk, hk.2⟩ : _ ∧ k_ ≠ gb389))) (fun _ hk => hk.2) (.bool a0_0)) (fun _ hk => hk.2) (.slice A0_1 l0_1.length c0_1)) (fun _ hk => hk.2) (.bool t391)) (fun _ hk => hk.2) (.slice Ao12 t392.length co12)) (fun _ hk => hk.1.1.1)), (by (with_reducible repeat (first | apply Kd.V_alloc | apply Kd.V_drewN | apply Kd.V_drew)); exact Kd.V_mono (Kd.V_far (p := ⟨gb389, 3, none⟩) (Kd.V_far (p := ⟨gb389, 2, none⟩) (Kd.V_far (p := ⟨gb389, 1, none⟩) (Kd.V_far (p := ⟨gb389, 0, none⟩) (Kd.V_mono HO394.out (fun k_ hk => (⟨hk, hk.2.2⟩ : _ ∧ k_ ≠ gb389))) (fun _ hk => hk.2) (.bool a0_0)) (fun _ hk => hk.2) (.slice A0_1 l0_1.length c0_1)) (fun _ hk => hk.2) (.bool t391)) (fun _ hk => hk.2) (.slice Ao12 t392.length co12)) (fun _ hk => hk.1.1)), m_59⟩
 ·rw [if_neg c3] at H
  cases H
theorem stopHere {p : Prop} (h : Shut True → p) : p := h (show Shut True from trivial)
theorem build_one {P : Program} {ops : Array Oper} {rest : List Oper} {o : Oper} {a : Act} {Q : Exit → Act → World → Prop} {W w1 : World} {v : Value} {t : Tmp} {a' : Act} (hgd : o.guard = none) (hN : o.dst = some t) (hrun : (execOp a.eval o).run P W = .ok (.value v) w1) (ha : a.put (some t) v = a')
  (h : wpList P ops Q rest a' w1) : wpList P ops Q (o :: rest) a W := by
 refine wpList_plain hgd fun K hK => ?_
 unfold Oper.wp
 rw [hrun]
 show K (a.put o.dst v) w1
 rw [hN, ha]
 exact hK _ _ h
structure Carry (W : World) (base Bo Bc : Nat) (v : Value) (ws : List Int) (c : Int) : Prop where
 o : W.heap[Bo]? = some (.cells #[v] 62 (0, 0))
 c : W.heap[Bc]? = some (.cells #[.int .u64 c] 115 (0, 0))
 r : Kd.R (Kd.int .u32) 117 W base (fun _ => True) v ws
theorem put_old {W : World} {base Bo Bc : Nat} {v : Value} {ws : List Int} {c : Int} (i : Carry W base Bo Bc v ws c) : some Bo ≠ v.ownBlock ∧ some Bc ≠ v.ownBlock :=
 ⟨Kd.R_ne i.r i.o (by decide), Kd.R_ne i.r i.c (by decide)⟩
set_option maxHeartbeats 4000000 in
set_option maxRecDepth 100000 in
theorem put_calls {w0 W : World} {base Bo Bc : Nat} {v : Value} {ws : List Int} {c : Int} (i : Carry W base Bo Bc v ws c) (hB : Below base w0 W) (hbw : base ≤ w0.heap.size) (ho : base ≤ Bo) (hc : base ≤ Bc) (hl : ws.length < 1000000000000) (x : Int) :
  Calls Try.prog 136 #[.int .u64 x, .pointer (some ⟨Bc, 0, none⟩), .pointer (some ⟨Bo, 0, none⟩)] W fun e W' => e = .returned (.tuple #[]) ∧
   ∃ v', Carry W' base Bo Bc v' (ws ++ [IntKind.u64.wrap (x + c) % 4294967296]) (IntKind.u64.wrap (x + c) / 4294967296) ∧ Below base w0 W' ∧ W.heap.size ≤ W'.heap.size ∧ (∀ k, k < W.heap.size → k ≠ Bo → k ≠ Bc → some k ≠ v.ownBlock → W'.heap[k]? = W.heap[k]?) := by
 have hco : W.cell? ⟨Bo, 0, none⟩ = some v := (blk_cell i.o 0).trans rfl
 have hcc : W.cell? ⟨Bc, 0, none⟩ = some (.int .u64 c) := (blk_cell i.c 0).trans rfl
 have HI := Aside0.mk i
 have HB := Aside0.mk hB
 have HBS := Aside0.mk hB.size
 have HBW := Aside0.mk hbw
 have HL := Aside0.mk hl
 have HO := Aside0.mk ho
 have HC := Aside0.mk hc
 have HOC := Aside0.mk (show Bo ≠ Bc from fun e => by
  have h1 := i.o
  rw [e, i.c] at h1
  injection h1 with h1
  injection h1 with _ h1
  exact absurd h1 (by decide))
 clear i hB hbw hl ho hc
 go_enter Try.func136, Try.ntmps136
 go_wp2_with ((with_reducible refine gate_dst (N := 10) rfl ?_); refine stopHere ?_)
 intro _
 refine build_one (t := 10) (a' := ?a1) (v := .slice (some ⟨W.heap.size, 0, none⟩) 1 1) (w1 := W.alloc (.cells #[.int .u32 (IntKind.u64.wrap (x + c) % 4294967296)] 117)) rfl rfl ?hr ?ha ?_
 case hr => first | (go_simp; done) | (go_simp; rfl)
 case ha => (simp only [Act.put, List.setIfInBounds_toArray, List.set_cons_zero, List.set_cons_succ]; rfl)
 refine Kd.R_append (Kd.int .u32) (w0 := w0) base rfl (.tmp 7) (.tmp 10) 62 117 (.int .u32 0) 4 rfl Try.underlying62 info117 rfl (by decide) (by omega) v ws (IntKind.u64.wrap (x + c) % 4294967296) [.int .u32 (IntKind.u64.wrap (x + c) % 4294967296)] (fun _ => True) (fun _ => False) rfl rfl ?aP (fun _ hk => hk.elim) ?aF ?aO ?aB ?aS ?aL ?_
 case aP => exact rfl
 case aF => exact (fun _ _ => trivial)
 case aO => exact HI.out.r
 case aB => exact HB.out
 case aS => exact Nat.le_trans HBW.out HBS.out
 case aL => have := HL.out; omega
 intro v1 w1 ho hb hg hat
 have HR1 := Aside0.mk ho
 have HB1 := Aside0.mk hb
 have HG1 := Aside0.mk hg
 have HO1 := Aside0.mk (blk_grown HI.out.o hg (put_old HI.out).1)
 have HC1 := Aside0.mk (blk_grown HI.out.c hg (put_old HI.out).2)
 have hf1 := blk_frozen HO1.out 0
 have hf2 := blk_frozen HC1.out 0
 clear ho hb hg hat
 obtain ⟨A1, c1, e1⟩ := Kd.R_slice HR1.out
 subst e1
 rw [show (ws ++ [IntKind.u64.wrap (x + c) % 4294967296]).length = ws.length + 1 by simp] at HR1 ⊢
 have hp1 := blk_put HO1.out 0 (.slice A1 (ws.length + 1) c1) rfl
 have hq1 := blk_far (p := ⟨Bo, 0, none⟩) HC1.out (fun e => HOC.out e.symm) (.slice A1 (ws.length + 1) c1)
 have hq2 : (w1.setCell ⟨Bo, 0, none⟩ (.slice A1 (ws.length + 1) c1)).cell? ⟨Bc, 0, none⟩ = some (.int .u64 c) := (blk_cell hq1 0).trans rfl
 have hq3 := blk_frozen hq1 0
 have hq5 : w1.cell? ⟨Bo, 0, none⟩ = some v := (blk_cell HO1.out 0).trans rfl
 have hp2 := Aside0.mk hp1
 have hq4 := Aside0.mk hq1
 clear hp1 hq1
 go_wp2
 go_end0
 have hp1 := hp2.out
 have hq1 := hq4.out
 refine ⟨rfl, _, ⟨blk_far (p := ⟨Bc, 0, none⟩) hp1 HOC.out _, blk_put hq1 0 _ rfl, Kd.R_set (Kd.R_set HR1.out HO1.out (by intro q hq; simp [Kd.int, Kd.scalar] at hq; omega) 0 _) hq1 (by intro q hq; simp [Kd.int, Kd.scalar] at hq; omega) 0 _⟩, (HB1.out.setCell (p := ⟨Bo, 0, none⟩) HO.out _).setCell (p := ⟨Bc, 0, none⟩) HC.out _, ?_, ?_⟩
 ·simpa using HG1.out.size
 ·intro k hk h1 h2 h3
  rw [Below.heap_setCell _ ⟨Bc, 0, none⟩ _ k h2, Below.heap_setCell _ ⟨Bo, 0, none⟩ _ k h1]
  exact HG1.out.block k hk h3
set_option maxHeartbeats 4000000 in
set_option maxRecDepth 100000 in
theorem carrier_calls (w : World) : Calls Try.prog 133 #[] w fun e W' =>
  e = .returned (.tuple #[.func (.func 136) #[] #[.pointer (some ⟨w.heap.size + 1, 0, none⟩), .pointer (some ⟨w.heap.size, 0, none⟩)], .func (.func 137) #[] #[.pointer (some ⟨w.heap.size, 0, none⟩), .pointer (some ⟨w.heap.size + 1, 0, none⟩)]]) ∧
   W'.heap.size = w.heap.size + 2 ∧ W'.heap[w.heap.size]? = some (.cells #[.slice none 0 0] 62 (0, 0)) ∧ W'.heap[w.heap.size + 1]? = some (.cells #[.int .u64 0] 115 (0, 0)) ∧ Below w.heap.size w W' := by
 go_enter Try.func133, Try.ntmps133
 go_wp2
 go_ret2
 have h0 := blk_alloc (blk_new w (.cells #[.slice none 0 0] 62)) (.cells #[.int .u64 0] 115)
 have h1 := blk_new (w.alloc (.cells #[.slice none 0 0] 62)) (.cells #[.int .u64 0] 115)
 rw [World.size_alloc] at h1
 exact ⟨rfl, (by simp), h0, h1, below_alloc (below_alloc (Below.refl _ _) _) _⟩
set_option maxHeartbeats 4000000 in
set_option maxRecDepth 100000 in
theorem all_calls {w0 W : World} {base Bo Bc : Nat} {v : Value} {ws : List Int} {c : Int} (i : Carry W base Bo Bc v ws c) (hB : Below base w0 W) (hbw : base ≤ w0.heap.size) (hl : ws.length < 1000000000000) :
  Calls Try.prog 137 #[.pointer (some ⟨Bo, 0, none⟩), .pointer (some ⟨Bc, 0, none⟩)] W fun e W' => ∃ v', e = .returned v' ∧ Kd.R (Kd.int .u32) 117 W' base (fun _ => True) v' (ws ++ [c % 4294967296]) ∧ Below base w0 W' ∧ (∀ k, k < W.heap.size → some k ≠ v.ownBlock → W'.heap[k]? = W.heap[k]?) := by
 have hco : W.cell? ⟨Bo, 0, none⟩ = some v := (blk_cell i.o 0).trans rfl
 have hcc : W.cell? ⟨Bc, 0, none⟩ = some (.int .u64 c) := (blk_cell i.c 0).trans rfl
 have HI := Aside0.mk i
 have HB := Aside0.mk hB
 have HBS := Aside0.mk hB.size
 have HBW := Aside0.mk hbw
 have HL := Aside0.mk hl
 clear i hB hbw hl
 go_enter Try.func137, Try.ntmps137
 go_wp2_with ((with_reducible refine gate_dst (N := 6) rfl ?_); refine stopHere ?_)
 intro _
 refine build_one (t := 6) (a' := ?a1) (v := .slice (some ⟨W.heap.size, 0, none⟩) 1 1) (w1 := W.alloc (.cells #[.int .u32 (c % 4294967296)] 117)) rfl rfl ?hr ?ha ?_
 case hr => first | (go_simp; done) | (go_simp; rfl)
 case ha => (simp only [Act.put, List.setIfInBounds_toArray, List.set_cons_zero, List.set_cons_succ]; rfl)
 refine Kd.R_append (Kd.int .u32) (w0 := w0) base rfl (.tmp 3) (.tmp 6) 62 117 (.int .u32 0) 4 rfl Try.underlying62 info117 rfl (by decide) (by omega) v ws (c % 4294967296) [.int .u32 (c % 4294967296)] (fun _ => True) (fun _ => False) rfl rfl ?aP (fun _ hk => hk.elim) ?aF ?aO ?aB ?aS ?aL ?_
 case aP => exact rfl
 case aF => exact (fun _ _ => trivial)
 case aO => exact HI.out.r
 case aB => exact HB.out
 case aS => exact Nat.le_trans HBW.out HBS.out
 case aL => have := HL.out; omega
 intro v1 w1 ho hb hg hat
 have HR1 := Aside0.mk ho
 have HB1 := Aside0.mk hb
 have HG1 := Aside0.mk hg
 clear ho hb hg hat
 go_wp2
 go_ret
 exact ⟨_, rfl, HR1.out, HB1.out, fun k hk hn => HG1.out.block k hk hn⟩
end Go.Proofs.Ytelklgdmhnkenaa.U
namespace Go.Proofs.Ytelklgdmhnkenaa.U
open Go.RowKit Go.Shelf Go.Proofs.YtelklgdmhnkenaaW.PrintWords Go.Proofs.YtelklgdmhnkenaaW.PrintLast Go.Proofs.YtelklgdmhnkenaaW.PrintMore
attribute [local go_sem] Oper.semAt_some max2_int max_two
def pairAt (l0 l1 : List Int) (k : Nat) : Int × Int := (if k < l0.length then IntKind.u64.wrap (l0[k]?.getD 0) else 0, if k < l1.length then IntKind.u64.wrap (l1[k]?.getD 0) else 0)
def prs (l0 l1 : List Int) (k : Nat) : List (Int × Int) := (List.range k).map (pairAt l0 l1)
theorem prs_succ (l0 l1 : List Int) (k : Nat) : prs l0 l1 (k + 1) = prs l0 l1 k ++ [pairAt l0 l1 k] := by simp [prs, List.range_succ]
theorem prs_length (l0 l1 : List Int) (k : Nat) : (prs l0 l1 k).length = k := by simp [prs]
def KpS (n₀ Ba Bb : Nat) (W W' : World) : Prop := ∀ k, k < n₀ ∨ k = Ba ∨ k = Bb → W'.heap[k]? = W.heap[k]?
theorem kpS_t {n₀ Ba Bb : Nat} {A B C : World} (h : KpS n₀ Ba Bb A B) (k : KpS n₀ Ba Bb B C) : KpS n₀ Ba Bb A C := fun j hj => (k j hj).trans (h j hj)
theorem kpS_b {n₀ Ba Bb : Nat} {w : World} (hn : n₀ ≤ w.heap.size) (ha : Ba < w.heap.size) (hb : Bb < w.heap.size) (W : World) (l : Nat) (o o' : Obj) (hl : w.heap.size ≤ l) (h : W.heap[l]? = some o) (_ : o.isCells = false) (_ : o.isWalk = false) : KpS n₀ Ba Bb W (W.putObj l o') :=
 fun k hk => World.putObj_heap_other (by omega)
theorem KpS.cell {n₀ Ba Bb : Nat} {W W' : World} (h : KpS n₀ Ba Bb W W') {p : Addr} (hp : p.block < n₀ ∨ p.block = Ba ∨ p.block = Bb) : W'.cell? p = W.cell? p := by simp [World.cell?, h p.block hp]
def Words (n₀ : Nat) (W : World) (A : Option Addr) (l : List Int) : Prop := ∀ k, k < l.length → ∃ ad, A = some ad ∧ ad.block < n₀ ∧ W.cell? (ad.add k) = some (.int .u32 (l[k]?.getD 0))
theorem Words.kept {n₀ Ba Bb : Nat} {W W' : World} {A : Option Addr} {l : List Int} (h : Words n₀ W A l) (hk : KpS n₀ Ba Bb W W') : Words n₀ W' A l := fun k hlt => by
 obtain ⟨ad, e, hb, hc⟩ := h k hlt
 exact ⟨ad, e, hb, (hk.cell (p := ad.add k) (.inl (by unfold Addr.add; split <;> exact hb))).trans hc⟩
set_option maxRecDepth 100000 in
set_option maxHeartbeats 4000000 in
theorem pairs1_in (F : Fence) (n : Nat) (hF : F.fn 108) (hro : F.round = none) (hn : 1 ≤ n) (l Ba Bb n₀ c0 c1 : Nat) (A0 A1 : Option Addr) (l0 l1 : List Int) (hl0 : l0.length ≤ 140737488351232) (hl1 : l1.length ≤ 140737488351232) (J Jx : List (Int × Int) → World → Prop)
  (hY : ∀ pre x W, J pre W → pre.length < max l0.length l1.length → YieldAt F (n - 1) Try.prog l #[.int .u64 x.1, .int .u64 x.2] W fun e W' =>
   (e = .returned (.bool true) ∧ J (pre ++ [x]) W' ∧ KpS n₀ Ba Bb W W') ∨ (e = .returned (.bool false) ∧ Jx (pre ++ [x]) W'))
  (W : World) (hBa : W.cell? ⟨Ba, 0, none⟩ = some (.slice A0 l0.length c0)) (hBb : W.cell? ⟨Bb, 0, none⟩ = some (.slice A1 l1.length c1)) (hw0 : Words n₀ W A0 l0) (hw1 : Words n₀ W A1 l1) (h0 : J [] W) :
  CallsIn F n Try.prog 108 #[.func (.yield l) #[] #[], .pointer (some ⟨Ba, 0, none⟩), .pointer (some ⟨Bb, 0, none⟩)] W fun e W' => (∃ v, e = .returned v) ∧
   ((∃ ys, ys = prs l0 l1 (max l0.length l1.length) ∧ J ys W') ∨ (∃ pre, (∃ k, k ≤ max l0.length l1.length ∧ pre = prs l0 l1 k) ∧ Jx pre W')) := by
 refine callsIn_of_wp Try.func108 rfl hF ?_ hro
 simp only [Try.ntmps108, List.size_toArray, List.length_cons, List.length_nil, Nat.reduceAdd, Nat.reduceSub, Array.replicate_succ, Array.replicate_zero, List.push_toArray, List.append_toArray, List.nil_append, List.cons_append]
 obtain ⟨N, hN⟩ : ∃ N, N = max l0.length l1.length := ⟨_, rfl⟩
 gi_wp2
 case inl hc =>
  have hNe : N = l1.length := by omega
  gi_loopw [12] (fun i wr => ∃ k : Nat, k ≤ N ∧ i = .int .i64 k ∧ J (prs l0 l1 k) wr ∧ KpS n₀ Ba Bb W wr) (fun i _ => N - (intOf i).toNat)
  case atStart => exact ⟨0, Nat.zero_le _, rfl, h0, fun _ _ => rfl⟩
  case round =>
   obtain ⟨k, hk, rfl, hJs, hkp⟩ := hrel
   have hBa' := (hkp.cell (p := ⟨Ba, 0, none⟩) (.inr (.inl rfl))).trans hBa
   have hBb' := (hkp.cell (p := ⟨Bb, 0, none⟩) (.inr (.inr rfl))).trans hBb
   by_cases hlt : k < N
   ·have hstep : ∀ W3 : World, J (prs l0 l1 k ++ [pairAt l0 l1 k]) W3 → KpS n₀ Ba Bb wr W3 → J (prs l0 l1 (k + 1)) W3 ∧ KpS n₀ Ba Bb W W3 := fun W3 a b => ⟨(by rw [prs_succ]; exact a), kpS_t hkp b⟩
    have hlt2 := hlt
    rw [hNe] at hlt2
    by_cases g0 : k < l0.length
    ·obtain ⟨ad0, e0, _, hc0⟩ := (hw0.kept hkp) k g0
     subst e0
     by_cases g1 : k < l1.length
     ·obtain ⟨ad1, e1, _, hc1⟩ := (hw1.kept hkp) k g1
      subst e1
      have ep : pairAt l0 l1 k = (IntKind.u64.wrap (l0[k]), IntKind.u64.wrap (l1[k])) := by simp [pairAt, g0, g1]
      obtain ⟨fn, tmps, assign, body, hy, hR⟩ := hY _ (pairAt l0 l1 k) wr hJs (by rw [prs_length]; omega)
      rw [ep] at hy
      dsimp only at hy
      gi_wp2
      refine hR.mono ?_
      rintro e W3 (⟨rfl, hJ3, hk3⟩ | ⟨rfl, hJx3⟩)
      ·gi_wp2
       go_roundw
       case rel => exact ⟨k + 1, (by omega), (by simp), (hstep W3 hJ3 hk3).1, (hstep W3 hJ3 hk3).2⟩
       case measure => simp [intOf]; omega
      ·gi_wp2
       refine bodyPost_ret (results_none rfl _ _ _) rfl ?_
       exact ⟨⟨_, rfl⟩, .inr ⟨_, ⟨k + 1, (by omega), (prs_succ _ _ _).symm⟩, hJx3⟩⟩
     ·exfalso
      omega
    ·by_cases g1 : k < l1.length
     ·obtain ⟨ad1, e1, _, hc1⟩ := (hw1.kept hkp) k g1
      subst e1
      have ep : pairAt l0 l1 k = (0, IntKind.u64.wrap (l1[k])) := by simp [pairAt, g0, g1]
      obtain ⟨fn, tmps, assign, body, hy, hR⟩ := hY _ (pairAt l0 l1 k) wr hJs (by rw [prs_length]; omega)
      rw [ep] at hy
      dsimp only at hy
      gi_wp2
      refine hR.mono ?_
      rintro e W3 (⟨rfl, hJ3, hk3⟩ | ⟨rfl, hJx3⟩)
      ·gi_wp2
       go_roundw
       case rel => exact ⟨k + 1, (by omega), (by simp), (hstep W3 hJ3 hk3).1, (hstep W3 hJ3 hk3).2⟩
       case measure => simp [intOf]; omega
      ·gi_wp2
       refine bodyPost_ret (results_none rfl _ _ _) rfl ?_
       exact ⟨⟨_, rfl⟩, .inr ⟨_, ⟨k + 1, (by omega), (prs_succ _ _ _).symm⟩, hJx3⟩⟩
     ·exfalso
      omega
   ·have hlt2 := hlt
    rw [hNe] at hlt2
    have hkN : k = N := by omega
    gi_wp2
    go_end0
    exact ⟨⟨_, rfl⟩, .inl ⟨_, (by rw [← hN, ← hkN]), hJs⟩⟩
 case inr hc =>
  have hNe : N = l0.length := by omega
  gi_loopw [12] (fun i wr => ∃ k : Nat, k ≤ N ∧ i = .int .i64 k ∧ J (prs l0 l1 k) wr ∧ KpS n₀ Ba Bb W wr) (fun i _ => N - (intOf i).toNat)
  case atStart => exact ⟨0, Nat.zero_le _, rfl, h0, fun _ _ => rfl⟩
  case round =>
   obtain ⟨k, hk, rfl, hJs, hkp⟩ := hrel
   have hBa' := (hkp.cell (p := ⟨Ba, 0, none⟩) (.inr (.inl rfl))).trans hBa
   have hBb' := (hkp.cell (p := ⟨Bb, 0, none⟩) (.inr (.inr rfl))).trans hBb
   by_cases hlt : k < N
   ·have hstep : ∀ W3 : World, J (prs l0 l1 k ++ [pairAt l0 l1 k]) W3 → KpS n₀ Ba Bb wr W3 → J (prs l0 l1 (k + 1)) W3 ∧ KpS n₀ Ba Bb W W3 := fun W3 a b => ⟨(by rw [prs_succ]; exact a), kpS_t hkp b⟩
    have hlt2 := hlt
    rw [hNe] at hlt2
    by_cases g0 : k < l0.length
    ·obtain ⟨ad0, e0, _, hc0⟩ := (hw0.kept hkp) k g0
     subst e0
     by_cases g1 : k < l1.length
     ·obtain ⟨ad1, e1, _, hc1⟩ := (hw1.kept hkp) k g1
      subst e1
      have ep : pairAt l0 l1 k = (IntKind.u64.wrap (l0[k]), IntKind.u64.wrap (l1[k])) := by simp [pairAt, g0, g1]
      obtain ⟨fn, tmps, assign, body, hy, hR⟩ := hY _ (pairAt l0 l1 k) wr hJs (by rw [prs_length]; omega)
      rw [ep] at hy
      dsimp only at hy
      gi_wp2
      refine hR.mono ?_
      rintro e W3 (⟨rfl, hJ3, hk3⟩ | ⟨rfl, hJx3⟩)
      ·gi_wp2
       go_roundw
       case rel => exact ⟨k + 1, (by omega), (by simp), (hstep W3 hJ3 hk3).1, (hstep W3 hJ3 hk3).2⟩
       case measure => simp [intOf]; omega
      ·gi_wp2
       refine bodyPost_ret (results_none rfl _ _ _) rfl ?_
       exact ⟨⟨_, rfl⟩, .inr ⟨_, ⟨k + 1, (by omega), (prs_succ _ _ _).symm⟩, hJx3⟩⟩
     ·have ep : pairAt l0 l1 k = (IntKind.u64.wrap (l0[k]), 0) := by simp [pairAt, g0, g1]
      obtain ⟨fn, tmps, assign, body, hy, hR⟩ := hY _ (pairAt l0 l1 k) wr hJs (by rw [prs_length]; omega)
      rw [ep] at hy
      dsimp only at hy
      gi_wp2
      refine hR.mono ?_
      rintro e W3 (⟨rfl, hJ3, hk3⟩ | ⟨rfl, hJx3⟩)
      ·gi_wp2
       go_roundw
       case rel => exact ⟨k + 1, (by omega), (by simp), (hstep W3 hJ3 hk3).1, (hstep W3 hJ3 hk3).2⟩
       case measure => simp [intOf]; omega
      ·gi_wp2
       refine bodyPost_ret (results_none rfl _ _ _) rfl ?_
       exact ⟨⟨_, rfl⟩, .inr ⟨_, ⟨k + 1, (by omega), (prs_succ _ _ _).symm⟩, hJx3⟩⟩
    ·exfalso
     omega
   ·have hlt2 := hlt
    rw [hNe] at hlt2
    have hkN : k = N := by omega
    gi_wp2
    go_end0
    exact ⟨⟨_, rfl⟩, .inl ⟨_, (by rw [← hN, ← hkN]), hJs⟩⟩
end Go.Proofs.Ytelklgdmhnkenaa.U
namespace Go.Proofs.Ytelklgdmhnkenaa.U
open Go.RowKit Go.Shelf Go.Proofs.YtelklgdmhnkenaaW.PrintWords Go.Proofs.YtelklgdmhnkenaaW.PrintLast Go.Proofs.YtelklgdmhnkenaaW.PrintMore
attribute [local go_sem] Oper.semAt_some max2_int max_two
set_option maxHeartbeats 1000000 in
theorem pairs_in (F : Fence) (n : Nat) (hF : F.fn 89) (hro : F.round = none) (A0 A1 : Option Addr) (n0 c0 n1 c1 : Nat) (w : World) :
  CallsIn F n Try.prog 89 #[.slice A0 n0 c0, .slice A1 n1 c1] w fun e w' => e = .returned (.func (.func 108) #[] #[.pointer (some ⟨w.heap.size, 0, none⟩), .pointer (some ⟨w.heap.size + 1, 0, none⟩)]) ∧ w' = (w.alloc (.cells #[.slice A0 n0 c0] 62)).alloc (.cells #[.slice A1 n1 c1] 62) := by
 refine callsIn_of_wp Try.func89 rfl hF ?_ hro
 simp only [Try.ntmps89, List.size_toArray, List.length_cons, List.length_nil, Nat.reduceAdd, Nat.reduceSub, Array.replicate_succ, Array.replicate_zero, List.push_toArray, List.append_toArray, List.nil_append, List.cons_append]
 gi_wp2
 go_ret
 exact ⟨rfl, rfl⟩
theorem box_new (W : World) (v : Value) (t : TypeId) : (W.alloc (.cells #[v] t)).cell? ⟨W.heap.size, 0, none⟩ = some v ∧ (W.alloc (.cells #[v] t)).frozen? ⟨W.heap.size, 0, none⟩ = false :=
 ⟨(blk_cell (blk_new W _) 0).trans rfl, blk_frozen (blk_new W _) 0⟩
theorem box_alloc {W : World} {a : Addr} {v : Value} (o : Obj) (h : W.cell? a = some v ∧ W.frozen? a = false) : (W.alloc o).cell? a = some v ∧ (W.alloc o).frozen? a = false :=
 ⟨cell_kept h.1 (World.grownBy_alloc W o none) (fun r e => by cases e), (frozen_kept h.1 (World.grownBy_alloc W o none) (fun r e => by cases e)).trans h.2⟩
theorem pairs_stops (F : Fence) (n : Nat) (hF : F.fn 108) (hro : F.round = none) (hn : 1 ≤ n) (Ba Bb n₀ c0 c1 : Nat) (A0 A1 : Option Addr) (l0 l1 : List Int) (hl0 : l0.length ≤ 140737488351232) (hl1 : l1.length ≤ 140737488351232) (w : World) (hBa : Ba < w.heap.size) (hBb : Bb < w.heap.size) (hn₀ : n₀ ≤ w.heap.size)
  (ca : w.cell? ⟨Ba, 0, none⟩ = some (.slice A0 l0.length c0)) (cb : w.cell? ⟨Bb, 0, none⟩ = some (.slice A1 l1.length c1)) (hw0 : Words n₀ w A0 l0) (hw1 : Words n₀ w A1 l1) :
  SeqStopsK F n Try.prog 108 #[.pointer (some ⟨Ba, 0, none⟩), .pointer (some ⟨Bb, 0, none⟩)] (fun x : Int × Int => #[Value.int .u64 x.1, Value.int .u64 x.2]) (KpS n₀ Ba Bb) (fun ys => ys = prs l0 l1 (max l0.length l1.length))
   (fun pre => ∃ k, k ≤ max l0.length l1.length ∧ pre = prs l0 l1 k) (max l0.length l1.length) w := fun l J Jx W hW _ _ hY h0 => by
 have hk : KpS n₀ Ba Bb w W := fun k hk => hW.block k (by omega)
 exact pairs1_in F n hF hro hn l Ba Bb n₀ c0 c1 A0 A1 l0 l1 hl0 hl1 J Jx hY W ((hk.cell (p := ⟨Ba, 0, none⟩) (.inr (.inl rfl))).trans ca) ((hk.cell (p := ⟨Bb, 0, none⟩) (.inr (.inr rfl))).trans cb) (hw0.kept hk) (hw1.kept hk) h0
theorem words_of {w : World} {A : Option Addr} {l : List Int} (h : Kd.C (Kd.int .u32) w A l.length l) : Words w.heap.size w A l := fun k hk => by
 obtain ⟨ad, e, hc⟩ := Kd.at_int h (k : Int) (by omega) (by omega)
 rw [Int.toNat_natCast] at hc
 have hb := World.block_lt_of_cell? _ _ hc
 refine ⟨ad, e, ?_, ?_⟩
 ·have : (ad.add k).block = ad.block := by unfold Addr.add; split <;> rfl
  rwa [this] at hb
 ·rw [hc]
  simp [rd, List.getD]
def cmpStep (c : Int) (x : Int × Int) : Int := if x.1 < x.2 then -1 else if x.2 < x.1 then 1 else c
def cmpF (l0 l1 : List Int) : Int := if (l0.length : Int) - (l1.length : Int) = 0 then (prs l0 l1 (max l0.length l1.length)).foldl cmpStep 0 else (l0.length : Int) - (l1.length : Int)
theorem words_below {n₀ : Nat} {w W : World} {A : Option Addr} {l : List Int} (h : Words n₀ w A l) (hb : Below n₀ w W) : Words n₀ W A l := fun k hlt => by
 obtain ⟨ad, e, hbb, hc⟩ := h k hlt
 refine ⟨ad, e, hbb, ?_⟩
 have he : (ad.add k).block = ad.block := by unfold Addr.add; split <;> rfl
 exact (hb.cell (p := ad.add k) (by rw [he]; exact hbb)).trans hc
set_option maxRecDepth 100000 in
set_option maxHeartbeats 4000000 in
theorem cmp_in (F : Fence) (n : Nat) (h121 : F.fn 121) (h89 : F.fn 89) (h108 : F.fn 108) (hro : F.round = none) (hn : 3 ≤ n) (A0 A1 : Option Addr) (c0 c1 : Nat) (l0 l1 : List Int) (hl0 : l0.length ≤ 140737488351232) (hl1 : l1.length ≤ 140737488351232) (w : World) (hw0 : Words w.heap.size w A0 l0) (hw1 : Words w.heap.size w A1 l1) :
  CallsIn F n Try.prog 121 #[.slice A0 l0.length c0, .slice A1 l1.length c1] w fun e W' => e = .returned (.int .i64 (cmpF l0 l1)) ∧ Below w.heap.size w W' := by
 have h1 : 1 ≤ n := by omega
 refine callsIn_of_wp_marks Try.func121 rfl h121 ?_ hro
 simp only [Try.ntmps121, List.size_toArray, List.length_cons, List.length_nil, Nat.reduceAdd, Nat.reduceSub, Array.replicate_succ, Array.replicate_zero, List.push_toArray, List.append_toArray, List.nil_append, List.cons_append]
 unfold cmpF
 by_cases hc : (l0.length : Int) - (l1.length : Int) = 0
 ·rw [if_pos hc]
  have hcb : ((l0.length : Int) - (l1.length : Int) != 0) = false := by simp [hc]
  gi_wp2_with (gi_at_call 89; refine (pairs_in F (n - 1) h89 hro _ _ _ _ _ _ _).mono ?_; rintro e w' ⟨rfl, rfl⟩)
  have k0 := box_new w (.int .i64 0) 3
  have k1 := box_new (w.alloc (.cells #[.int .i64 0] 3)) (.slice A0 l0.length c0) 62
  have k2 := box_new ((w.alloc (.cells #[.int .i64 0] 3)).alloc (.cells #[.slice A0 l0.length c0] 62)) (.slice A1 l1.length c1) 62
  simp only [World.size_alloc] at k1 k2
  have hB0 : Below w.heap.size w (((w.alloc (.cells #[.int .i64 0] 3)).alloc (.cells #[.slice A0 l0.length c0] 62)).alloc (.cells #[.slice A1 l1.length c1] 62)) := (((Below.refl _ w).alloc (Nat.le_refl _) _).alloc (by simp) _).alloc (by simp; omega) _
  refine wpIn_rangeFunc_ownF hro h1 (gf := 108) (lb := #[.pointer (some ⟨w.heap.size + 1, 0, none⟩), .pointer (some ⟨w.heap.size + 1 + 1, 0, none⟩)]) rfl h108 (enters_of Try.func108 m_13 rfl)
   (pairs_stops F (n - 1) h108 hro (by omega) (w.heap.size + 1) (w.heap.size + 1 + 1) w.heap.size c0 c1 A0 A1 l0 l1 hl0 hl1 _ (by simp) (by simp) (by simp; omega) (box_alloc _ k1).1 k2.1 (words_below hw0 hB0) (words_below hw1 hB0)) kpS_t (kpS_b (by simp; omega) (by simp) (by simp)) (Below.refl _ _) (fun _ => rfl)
   (fun pre W => (W.cell? ⟨w.heap.size, 0, none⟩ = some (.int .i64 (pre.foldl cmpStep 0)) ∧ W.frozen? ⟨w.heap.size, 0, none⟩ = false) ∧ Below w.heap.size w W)
   (fun _ _ _ => False)
   (OwnFrom.and (Own.from (fun s A B row hs hg hr => ⟨cell_kept hs.1 hg hr, (frozen_kept hs.1 hg hr).trans hs.2⟩) _) (ownFrom_below (Nat.le_refl _) (by simp; omega)))
   (fun _ _ _ _ _ hs _ _ => hs)
   ⟨box_alloc _ (box_alloc _ k0), hB0⟩
   (fun x => { tmps := #[.slice A0 l0.length c0, .slice A1 l1.length c1, undef, undef, .int .i64 0, .int .i64 0, .pointer (some ⟨w.heap.size, 0, none⟩), .int .u64 x.1, .int .u64 x.2, .slice A0 l0.length c0, .int .i64 l0.length, .slice A1 l1.length c1, .int .i64 l1.length, .int .i64 0, .int .i64 0, .bool false, undef, .slice A0 l0.length c0, .slice A1 l1.length c1, .func (.func 108) #[] #[.pointer (some ⟨w.heap.size + 1, 0, none⟩), .pointer (some ⟨w.heap.size + 1 + 1, 0, none⟩)], .int .u64 x.1, .int .u64 x.2, undef, undef, undef, undef, undef, undef, undef, undef, undef], defers := [] }) ?assign ?body ?done ?stop
  case assign =>
   intro l x W K hK
   gi_wp2
   exact hK
  case body =>
   rintro l pre x W ⟨⟨hc, hf⟩, hB⟩ _
   have hkp : ∀ v : Value, KpS w.heap.size (w.heap.size + 1) (w.heap.size + 1 + 1) W (W.setCell ⟨w.heap.size, 0, none⟩ v) := fun v k hk => Below.heap_setCell W ⟨w.heap.size, 0, none⟩ v k (by show k ≠ w.heap.size; omega)
   have hst : ∀ c : Int, cmpStep (pre.foldl cmpStep 0) x = c → ((W.setCell ⟨w.heap.size, 0, none⟩ (.int .i64 c)).cell? ⟨w.heap.size, 0, none⟩ = some (.int .i64 ((pre ++ [x]).foldl cmpStep 0)) ∧ (W.setCell ⟨w.heap.size, 0, none⟩ (.int .i64 c)).frozen? ⟨w.heap.size, 0, none⟩ = false) ∧ Below w.heap.size w (W.setCell ⟨w.heap.size, 0, none⟩ (.int .i64 c)) := fun c e =>
    ⟨⟨(by rw [List.foldl_append, List.foldl_cons, List.foldl_nil, e]; exact World.cell?_setCell_same' _ _ _ (by rw [hc]; rfl)), (by rw [World.frozen?_setCell]; exact hf)⟩, hB.setCell (p := ⟨w.heap.size, 0, none⟩) (Nat.le_refl _) _⟩
   by_cases g1 : x.1 < x.2
   ·have s1 : cmpStep (pre.foldl cmpStep 0) x = -1 := if_pos g1
    gi_wp2
    exact ⟨KeepsOthers.setCell _ _ _, hkp _, hst (-1) s1⟩
   ·by_cases g2 : x.2 < x.1
    ·have s1 : cmpStep (pre.foldl cmpStep 0) x = 1 := (if_neg g1).trans (if_pos g2)
     gi_wp2
     exact ⟨KeepsOthers.setCell _ _ _, hkp _, hst 1 s1⟩
    ·have s1 : cmpStep (pre.foldl cmpStep 0) x = pre.foldl cmpStep 0 := (if_neg g1).trans (if_neg g2)
     gi_wp2
     exact ⟨KeepsOthers.refl _, fun _ _ => rfl, ⟨(by rw [List.foldl_append, List.foldl_cons, List.foldl_nil, s1]; exact hc), hf⟩, hB⟩
  case done =>
   rintro D ys W hD rfl ⟨⟨hc, _⟩, hB⟩ hK
   gi_wp2
   refine ⟨(by simp), .inl ⟨_, _, rfl, run_takeDeferred hK, ?_⟩⟩
   exact ⟨_, results_tmp rfl _ _ _, rfl, hB.trans (belowK_b (w := w) (Nat.le_refl _) W D _ _ (by simp at hD; omega) hK rfl rfl)⟩
  case stop =>
   rintro D c pre W _ _ h _
   exact h.elim
 ·rw [if_neg hc]
  have hcb : ((l0.length : Int) - (l1.length : Int) != 0) = true := by simp [hc]
  gi_wp2
  first | exact ⟨_, results_tmp rfl _ _ _, rfl, Below.refl _ _⟩ | exact ⟨(by simp), _, results_tmp rfl _ _ _, rfl, Below.refl _ _⟩
end Go.Proofs.Ytelklgdmhnkenaa.U
namespace Go.Proofs.Ytelklgdmhnkenaa.U
open Go.RowKit Go.Shelf Go.Proofs.YtelklgdmhnkenaaW.PrintWords Go.Proofs.YtelklgdmhnkenaaW.PrintLast Go.Proofs.YtelklgdmhnkenaaW.PrintMore
attribute [local go_sem] Oper.semAt_some max2_int max_two
def putL (st : List Int × Int) (v : Int) : List Int × Int := (st.1 ++ [IntKind.u64.wrap (v + st.2) % 4294967296], IntKind.u64.wrap (v + st.2) / 4294967296)
def addL (ps : List (Int × Int)) : List Int × Int := ps.foldl (fun st p => putL st (IntKind.u64.wrap (p.1 + p.2))) ([], 0)
def addF (l0 l1 : List Int) : List Int := (addL (prs l0 l1 (max l0.length l1.length))).1 ++ [(addL (prs l0 l1 (max l0.length l1.length))).2 % 4294967296]
theorem addL_snoc (ps : List (Int × Int)) (x : Int × Int) : addL (ps ++ [x]) = putL (addL ps) (IntKind.u64.wrap (x.1 + x.2)) := by simp [addL]
theorem addL_length (ps : List (Int × Int)) : (addL ps).1.length = ps.length := by
 suffices ∀ st : List Int × Int, (ps.foldl (fun st p => putL st (IntKind.u64.wrap (p.1 + p.2))) st).1.length = st.1.length + ps.length by
  have := this ([], 0)
  simpa [addL] using this
 induction ps with
 | nil => intro st; simp
 | cons x ps ih => intro st; rw [List.foldl_cons, ih]; simp [putL]; omega
structure Sum (W : World) (base Bo Bc Bp Ba Bb : Nat) (pv av bv : Value) (st : List Int × Int) : Prop where
 k : ∃ v, Carry W base Bo Bc v st.1 st.2
 p : W.heap[Bp]? = some (.cells #[pv] 162 (0, 0))
 a : W.heap[Ba]? = some (.cells #[av] 62 (0, 0))
 b : W.heap[Bb]? = some (.cells #[bv] 62 (0, 0))
theorem Sum.grown {W W' : World} {base Bo Bc Bp Ba Bb : Nat} {pv av bv : Value} {st : List Int × Int} (i : Sum W base Bo Bc Bp Ba Bb pv av bv st) {row : Option Nat} (hg : W.grownBy W' row) (hr : ∀ r, row = some r → ∃ o : Obj, W.heap[r]? = some o ∧ o.isCells = false) : Sum W' base Bo Bc Bp Ba Bb pv av bv st := by
 have key : ∀ {g : Nat} {cs : Array Value} {t : TypeId}, W.heap[g]? = some (.cells cs t (0, 0)) → some g ≠ row := fun {g cs t} h e => by
  obtain ⟨o, ho, hn⟩ := hr g e.symm
  rw [h] at ho
  cases ho
  simp [Obj.isCells] at hn
 obtain ⟨⟨v, ⟨c1, c2, c3⟩⟩, p, a, b⟩ := i
 refine ⟨⟨v, ⟨blk_grown c1 hg (key c1), blk_grown c2 hg (key c2), ?_⟩⟩, blk_grown p hg (key p), blk_grown a hg (key a), blk_grown b hg (key b)⟩
 exact Kd.R_mono (Kd.R_grown (Kd.R_bound c3) hg (fun k hk => by obtain ⟨_, _, _, q, _, cells, hc⟩ := hk; exact key hc)) (fun _ _ => trivial)
set_option maxRecDepth 100000 in
set_option maxHeartbeats 8000000 in
theorem add_calls (A0 A1 : Option Addr) (c0 c1 : Nat) (l0 l1 : List Int) (hl0 : l0.length ≤ 100000000000) (hl1 : l1.length ≤ 100000000000) (w : World) (hw0 : Words w.heap.size w A0 l0) (hw1 : Words w.heap.size w A1 l1) :
  Calls Try.prog 120 #[.slice A0 l0.length c0, .slice A1 l1.length c1] w fun e W' => ∃ v, e = .returned v ∧ Kd.R (Kd.int .u32) 117 W' w.heap.size (fun _ => True) v (addF l0 l1) ∧ Below w.heap.size w W' := by
 refine (callsIn_wide (n := 6)).1 ?_
 refine callsIn_of_wp_marks Try.func120 rfl trivial ?_ rfl
 simp only [Try.ntmps120, List.size_toArray, List.length_cons, List.length_nil, Nat.reduceAdd, Nat.reduceSub, Array.replicate_succ, Array.replicate_zero, List.push_toArray, List.append_toArray, List.nil_append, List.cons_append]
 gi_wp2_with (first | (refine ⟨trivial, ?_⟩; gi_at_call 133; refine (callsIn_wide.2 (carrier_calls w)).mono ?_; rintro e w1 ⟨rfl, hs1, ho1, hc1, hb1⟩) | (refine ⟨trivial, ?_⟩; gi_at_call 89; refine (pairs_in Fence.wide _ trivial rfl _ _ _ _ _ _ _).mono ?_; rintro e w' ⟨rfl, rfl⟩) | (gi_at_call 133; refine (callsIn_wide.2 (carrier_calls w)).mono ?_; rintro e w1 ⟨rfl, hs1, ho1, hc1, hb1⟩) | (gi_at_call 89; refine (pairs_in Fence.wide _ trivial rfl _ _ _ _ _ _ _).mono ?_; rintro e w' ⟨rfl, rfl⟩))
 have b1 := blk_new w1 (.cells #[.func (.func 136) #[] #[.pointer (some ⟨w.heap.size + 1, 0, none⟩), .pointer (some ⟨w.heap.size, 0, none⟩)]] 162)
 have b2 := blk_new (w1.alloc (.cells #[.func (.func 136) #[] #[.pointer (some ⟨w.heap.size + 1, 0, none⟩), .pointer (some ⟨w.heap.size, 0, none⟩)]] 162)) (.cells #[.slice A0 l0.length c0] 62)
 have b3 := blk_new ((w1.alloc (.cells #[.func (.func 136) #[] #[.pointer (some ⟨w.heap.size + 1, 0, none⟩), .pointer (some ⟨w.heap.size, 0, none⟩)]] 162)).alloc (.cells #[.slice A0 l0.length c0] 62)) (.cells #[.slice A1 l1.length c1] 62)
 simp only [World.size_alloc, hs1] at b1 b2 b3
 have hB2 : Below w.heap.size w (((w1.alloc (.cells #[.func (.func 136) #[] #[.pointer (some ⟨w.heap.size + 1, 0, none⟩), .pointer (some ⟨w.heap.size, 0, none⟩)]] 162)).alloc (.cells #[.slice A0 l0.length c0] 62)).alloc (.cells #[.slice A1 l1.length c1] 62)) := below_alloc (below_alloc (below_alloc hb1 _) _) _
 have i0 : Sum (((w1.alloc (.cells #[.func (.func 136) #[] #[.pointer (some ⟨w.heap.size + 1, 0, none⟩), .pointer (some ⟨w.heap.size, 0, none⟩)]] 162)).alloc (.cells #[.slice A0 l0.length c0] 62)).alloc (.cells #[.slice A1 l1.length c1] 62)) w.heap.size w.heap.size (w.heap.size + 1) (w.heap.size + 2) (w.heap.size + 2 + 1) (w.heap.size + 2 + 1 + 1) (.func (.func 136) #[] #[.pointer (some ⟨w.heap.size + 1, 0, none⟩), .pointer (some ⟨w.heap.size, 0, none⟩)]) (.slice A0 l0.length c0) (.slice A1 l1.length c1) (addL []) :=
  ⟨⟨_, ⟨blk_alloc (blk_alloc (blk_alloc ho1 _) _) _, blk_alloc (blk_alloc (blk_alloc hc1 _) _) _, Kd.R_nil _ _ _ _ _⟩⟩, blk_alloc (blk_alloc b1 _) _, blk_alloc b2 _, b3⟩
 have hsz : (((w1.alloc (.cells #[.func (.func 136) #[] #[.pointer (some ⟨w.heap.size + 1, 0, none⟩), .pointer (some ⟨w.heap.size, 0, none⟩)]] 162)).alloc (.cells #[.slice A0 l0.length c0] 62)).alloc (.cells #[.slice A1 l1.length c1] 62)).heap.size = w.heap.size + 5 := by simp [hs1]
 obtain ⟨w2, hw2⟩ : ∃ W, W = ((w1.alloc (.cells #[.func (.func 136) #[] #[.pointer (some ⟨w.heap.size + 1, 0, none⟩), .pointer (some ⟨w.heap.size, 0, none⟩)]] 162)).alloc (.cells #[.slice A0 l0.length c0] 62)).alloc (.cells #[.slice A1 l1.length c1] 62) := ⟨_, rfl⟩
 rw [← hw2] at hB2 i0 hsz ⊢
 refine wpIn_rangeFunc_ownF rfl (by omega) (gf := 108) (lb := #[.pointer (some ⟨w.heap.size + 2 + 1, 0, none⟩), .pointer (some ⟨w.heap.size + 2 + 1 + 1, 0, none⟩)]) rfl trivial (enters_of Try.func108 m_13 rfl)
  (pairs_stops Fence.wide 5 trivial rfl (by omega) (w.heap.size + 2 + 1) (w.heap.size + 2 + 1 + 1) w.heap.size c0 c1 A0 A1 l0 l1 (by omega) (by omega) w2 (by omega) (by omega) (by omega) ((blk_cell i0.a 0).trans rfl) ((blk_cell i0.b 0).trans rfl) (words_below hw0 hB2) (words_below hw1 hB2)) kpS_t (kpS_b (by omega) (by omega) (by omega)) (Below.refl _ _) (fun _ => rfl)
  (fun pre W => Sum W w.heap.size w.heap.size (w.heap.size + 1) (w.heap.size + 2) (w.heap.size + 2 + 1) (w.heap.size + 2 + 1 + 1) (.func (.func 136) #[] #[.pointer (some ⟨w.heap.size + 1, 0, none⟩), .pointer (some ⟨w.heap.size, 0, none⟩)]) (.slice A0 l0.length c0) (.slice A1 l1.length c1) (addL pre) ∧ Below w.heap.size w W)
  (fun _ _ _ => False)
  (OwnFrom.and (Own.from (fun s A B row hs hg hr => hs.grown hg hr) _) (ownFrom_below (Nat.le_refl _) (by omega)))
  (fun _ _ _ _ _ hs _ _ => hs)
  ⟨i0, hB2⟩
  (fun x => { tmps := #[.slice A0 l0.length c0, .slice A1 l1.length c1, undef, undef, .slice none 0 0, .pointer (some ⟨w.heap.size + 2, 0, none⟩), .func (.func 137) #[] #[.pointer (some ⟨w.heap.size, 0, none⟩), .pointer (some ⟨w.heap.size + 1, 0, none⟩)], .int .u64 x.1, .int .u64 x.2, .tuple #[.func (.func 136) #[] #[.pointer (some ⟨w.heap.size + 1, 0, none⟩), .pointer (some ⟨w.heap.size, 0, none⟩)], .func (.func 137) #[] #[.pointer (some ⟨w.heap.size, 0, none⟩), .pointer (some ⟨w.heap.size + 1, 0, none⟩)]], .tuple #[.func (.func 136) #[] #[.pointer (some ⟨w.heap.size + 1, 0, none⟩), .pointer (some ⟨w.heap.size, 0, none⟩)], .func (.func 137) #[] #[.pointer (some ⟨w.heap.size, 0, none⟩), .pointer (some ⟨w.heap.size + 1, 0, none⟩)]], .func (.func 136) #[] #[.pointer (some ⟨w.heap.size + 1, 0, none⟩), .pointer (some ⟨w.heap.size, 0, none⟩)], .func (.func 137) #[] #[.pointer (some ⟨w.heap.size, 0, none⟩), .pointer (some ⟨w.heap.size + 1, 0, none⟩)], .slice A0 l0.length c0, .slice A1 l1.length c1, .func (.func 108) #[] #[.pointer (some ⟨w.heap.size + 2 + 1, 0, none⟩), .pointer (some ⟨w.heap.size + 2 + 1 + 1, 0, none⟩)], .int .u64 x.1, .int .u64 x.2, undef, undef, undef, undef, undef, undef, undef], defers := [] }) ?assign ?body ?done ?stop
 case assign =>
  intro l x W K hK
  gi_wp2
  exact hK
 case body =>
  rintro l pre x W ⟨i, hB⟩ hlt
  obtain ⟨v, ic⟩ := i.k
  have hcp : W.cell? ⟨w.heap.size + 2, 0, none⟩ = some (.func (.func 136) #[] #[.pointer (some ⟨w.heap.size + 1, 0, none⟩), .pointer (some ⟨w.heap.size, 0, none⟩)]) := (blk_cell i.p 0).trans rfl
  have hlen : (addL pre).1.length < 1000000000000 := by
   rw [addL_length]
   omega
  gi_wp2_with (first | (refine ⟨trivial, ?_⟩; gi_at_call 136; refine (CallsIn.inRound l (callsIn_wide.2 (put_calls ic hB (Nat.le_refl _) (Nat.le_refl _) (Nat.le_succ _) hlen _))).mono ?_; rintro e w3 ⟨rfl, v3, i3, hB3, hs3, hf3⟩) | (gi_at_call 136; refine (CallsIn.inRound l (callsIn_wide.2 (put_calls ic hB (Nat.le_refl _) (Nat.le_refl _) (Nat.le_succ _) hlen _))).mono ?_; rintro e w3 ⟨rfl, v3, i3, hB3, hs3, hf3⟩))
  have hcells : ∀ {k : Nat} {o : Obj}, W.heap[k]? = some o → o.isCells = false → k ≠ w.heap.size ∧ k ≠ w.heap.size + 1 ∧ some k ≠ v.ownBlock := fun {k o} hk ho => by
   refine ⟨fun e => ?_, fun e => ?_, fun e => ?_⟩
   ·rw [e, ic.o] at hk; cases hk; simp [Obj.isCells] at ho
   ·rw [e, ic.c] at hk; cases hk; simp [Obj.isCells] at ho
   ·obtain ⟨_, _, _, q, _, cells, hc⟩ := (Kd.R_bound ic.r).1 k e.symm
    rw [hc] at hk; cases hk; simp [Obj.isCells] at ho
  refine ⟨⟨hs3, fun k o hk ho => ?_⟩, fun k hk => ?_, ⟨⟨v3, (by rw [addL_snoc]; exact i3)⟩, ?_, ?_, ?_⟩, hB3⟩
  ·obtain ⟨e1, e2, e3⟩ := hcells hk ho
   exact (hf3 k (blk_lt hk) e1 e2 e3).trans hk
  ·have hle := hB.size
   rcases hk with hk | rfl | rfl
   ·exact hf3 k (by omega) (by omega) (by omega) (fun e => by have := Kd.R_base ic.r k e.symm; omega)
   ·exact hf3 _ (blk_lt i.a) (by omega) (by omega) (Kd.R_ne ic.r i.a (by decide))
   ·exact hf3 _ (blk_lt i.b) (by omega) (by omega) (Kd.R_ne ic.r i.b (by decide))
  ·exact (hf3 _ (blk_lt i.p) (by omega) (by omega) (Kd.R_ne ic.r i.p (by decide))).trans i.p
  ·exact (hf3 _ (blk_lt i.a) (by omega) (by omega) (Kd.R_ne ic.r i.a (by decide))).trans i.a
  ·exact (hf3 _ (blk_lt i.b) (by omega) (by omega) (Kd.R_ne ic.r i.b (by decide))).trans i.b
 case done =>
  rintro D ys W hD rfl ⟨i, hB⟩ hK
  obtain ⟨v, ic⟩ := i.k
  have hlen : (addL (prs l0 l1 (max l0.length l1.length))).1.length < 1000000000000 := by
   rw [addL_length, prs_length]
   omega
  gi_wp2_with (first | (refine ⟨trivial, ?_⟩; gi_at_call 137; refine (callsIn_wide.2 (all_calls ic hB (Nat.le_refl _) hlen)).mono ?_; rintro e w3 ⟨v3, rfl, hr3, hB3, hf3⟩) | (gi_at_call 137; refine (callsIn_wide.2 (all_calls ic hB (Nat.le_refl _) hlen)).mono ?_; rintro e w3 ⟨v3, rfl, hr3, hB3, hf3⟩))
  have hK3 : w3.heap[D]? = some (.deferred (some [])) := (hf3 D (blk_lt hK) (fun e => by
   obtain ⟨_, _, _, q, _, cells, hc⟩ := (Kd.R_bound ic.r).1 D e.symm
   rw [hc] at hK; cases hK)).trans hK
  refine ⟨(by simp), .inl ⟨_, _, rfl, run_takeDeferred hK3, ?_⟩⟩
  refine ⟨_, results_tmp rfl _ _ _, _, rfl, ?_, hB3.trans (belowK_b (w := w) (Nat.le_refl _) w3 D _ _ (by omega) hK3 rfl rfl)⟩
  exact Kd.R_mono (Kd.R_grown (Kd.R_bound hr3) (grownBy_putObj' w3 D (.deferred none)) (fun k hk e => by
   obtain ⟨_, _, _, q, _, cells, hc⟩ := hk
   cases e
   rw [hc] at hK3; cases hK3)) (fun _ _ => trivial)
 case stop =>
  rintro D c pre W _ _ h _
  exact h.elim
end Go.Proofs.Ytelklgdmhnkenaa.U
namespace Go.Proofs.Ytelklgdmhnkenaa.U
open Go.RowKit Go.Shelf Go.Proofs.YtelklgdmhnkenaaW.PrintWords Go.Proofs.YtelklgdmhnkenaaW.PrintLast Go.Proofs.YtelklgdmhnkenaaW.PrintMore
attribute [local go_sem] Oper.semAt_some max2_int max_two
def subL (ps : List (Int × Int)) : List Int × Int := ps.foldl (fun st p => putL st (IntKind.u64.wrap (IntKind.u64.wrap (IntKind.u64.wrap (p.1 + 4294967296) - 1) - p.2))) (putL ([], 0) 4294967296)
def subOut (l0 l1 : List Int) : List Int := (subL (prs l0 l1 (max l0.length l1.length))).1 ++ [(subL (prs l0 l1 (max l0.length l1.length))).2 % 4294967296]
def subF (l0 l1 : List Int) : List Int := ((subOut l0 l1).take ((subOut l0 l1).length - 1)).drop 1
theorem subL_snoc (ps : List (Int × Int)) (x : Int × Int) : subL (ps ++ [x]) = putL (subL ps) (IntKind.u64.wrap (IntKind.u64.wrap (IntKind.u64.wrap (x.1 + 4294967296) - 1) - x.2)) := by simp [subL]
theorem subL_length (ps : List (Int × Int)) : (subL ps).1.length = ps.length + 1 := by
 suffices ∀ st : List Int × Int, (ps.foldl (fun st p => putL st (IntKind.u64.wrap (IntKind.u64.wrap (IntKind.u64.wrap (p.1 + 4294967296) - 1) - p.2))) st).1.length = st.1.length + ps.length by
  have := this (putL ([], 0) 4294967296)
  rw [subL, this]
  simp [putL]
  omega
 induction ps with
 | nil => intro st; simp
 | cons x ps ih => intro st; rw [List.foldl_cons, ih]; simp [putL]; omega
theorem subOut_length (l0 l1 : List Int) : (subOut l0 l1).length = max l0.length l1.length + 2 := by simp [subOut, subL_length, prs_length]
set_option maxRecDepth 100000 in
set_option maxHeartbeats 8000000 in
theorem sub_calls (A0 A1 : Option Addr) (c0 c1 : Nat) (l0 l1 : List Int) (hl0 : l0.length ≤ 100000000000) (hl1 : l1.length ≤ 100000000000) (w : World) (hw0 : Words w.heap.size w A0 l0) (hw1 : Words w.heap.size w A1 l1) :
  Calls Try.prog 122 #[.slice A0 l0.length c0, .slice A1 l1.length c1] w fun e W' => ∃ v, e = .returned v ∧ Kd.V (Kd.int .u32) 117 W' w.heap.size (fun k_ => w.heap.size ≤ k_) v (subF l0 l1) ∧ Below w.heap.size w W' := by
 refine (callsIn_wide (n := 6)).1 ?_
 refine callsIn_of_wp_marks Try.func122 rfl trivial ?_ rfl
 simp only [Try.ntmps122, List.size_toArray, List.length_cons, List.length_nil, Nat.reduceAdd, Nat.reduceSub, Array.replicate_succ, Array.replicate_zero, List.push_toArray, List.append_toArray, List.nil_append, List.cons_append]
 gi_wp2_with (first | (gi_at_call 133; refine (callsIn_wide.2 (carrier_calls w)).mono ?_; rintro e w1 ⟨rfl, hs1, ho1, hc1, hb1⟩; have j1 : Carry (w1.alloc (.cells #[.func (.func 136) #[] #[.pointer (some ⟨w.heap.size + 1, 0, none⟩), .pointer (some ⟨w.heap.size, 0, none⟩)]] 162)) w.heap.size w.heap.size (w.heap.size + 1) (.slice none 0 0) [] 0 := ⟨blk_alloc ho1 _, blk_alloc hc1 _, Kd.R_nil _ _ _ _ _⟩; have jp := blk_new w1 (.cells #[.func (.func 136) #[] #[.pointer (some ⟨w.heap.size + 1, 0, none⟩), .pointer (some ⟨w.heap.size, 0, none⟩)]] 162); have jc : (w1.alloc (.cells #[.func (.func 136) #[] #[.pointer (some ⟨w.heap.size + 1, 0, none⟩), .pointer (some ⟨w.heap.size, 0, none⟩)]] 162)).cell? ⟨w.heap.size + 2, 0, none⟩ = some (.func (.func 136) #[] #[.pointer (some ⟨w.heap.size + 1, 0, none⟩), .pointer (some ⟨w.heap.size, 0, none⟩)]) := by rw [← hs1]; exact (blk_cell jp 0).trans rfl) | (gi_at_call 136; refine (callsIn_wide.2 (put_calls j1 (below_alloc hb1 _) (Nat.le_refl _) (Nat.le_refl _) (Nat.le_succ _) (by simp) _)).mono ?_; rintro e w2 ⟨rfl, v2, i2, hB2, hs2, hf2⟩) | (gi_at_call 89; refine (pairs_in Fence.wide _ trivial rfl _ _ _ _ _ _ _).mono ?_; rintro e w' ⟨rfl, rfl⟩) | (refine ⟨trivial, ?_⟩; gi_at_call 136; refine (callsIn_wide.2 (put_calls j1 (below_alloc hb1 _) (Nat.le_refl _) (Nat.le_refl _) (Nat.le_succ _) (by simp) _)).mono ?_; rintro e w2 ⟨rfl, v2, i2, hB2, hs2, hf2⟩) | (refine ⟨trivial, ?_⟩; gi_at_call 133; refine (callsIn_wide.2 (carrier_calls w)).mono ?_; rintro e w1 ⟨rfl, hs1, ho1, hc1, hb1⟩; have j1 : Carry (w1.alloc (.cells #[.func (.func 136) #[] #[.pointer (some ⟨w.heap.size + 1, 0, none⟩), .pointer (some ⟨w.heap.size, 0, none⟩)]] 162)) w.heap.size w.heap.size (w.heap.size + 1) (.slice none 0 0) [] 0 := ⟨blk_alloc ho1 _, blk_alloc hc1 _, Kd.R_nil _ _ _ _ _⟩; have jp := blk_new w1 (.cells #[.func (.func 136) #[] #[.pointer (some ⟨w.heap.size + 1, 0, none⟩), .pointer (some ⟨w.heap.size, 0, none⟩)]] 162); have jc : (w1.alloc (.cells #[.func (.func 136) #[] #[.pointer (some ⟨w.heap.size + 1, 0, none⟩), .pointer (some ⟨w.heap.size, 0, none⟩)]] 162)).cell? ⟨w.heap.size + 2, 0, none⟩ = some (.func (.func 136) #[] #[.pointer (some ⟨w.heap.size + 1, 0, none⟩), .pointer (some ⟨w.heap.size, 0, none⟩)]) := by rw [← hs1]; exact (blk_cell jp 0).trans rfl) | (refine ⟨trivial, ?_⟩; gi_at_call 89; refine (pairs_in Fence.wide _ trivial rfl _ _ _ _ _ _ _).mono ?_; rintro e w' ⟨rfl, rfl⟩))
 have hz2 : w.heap.size + 3 ≤ w2.heap.size := by
  have : (w1.alloc (.cells #[.func (.func 136) #[] #[.pointer (some ⟨w.heap.size + 1, 0, none⟩), .pointer (some ⟨w.heap.size, 0, none⟩)]] 162)).heap.size = w.heap.size + 3 := by simp [hs1]
  omega
 have p2 : w2.heap[w.heap.size + 2]? = some (.cells #[.func (.func 136) #[] #[.pointer (some ⟨w.heap.size + 1, 0, none⟩), .pointer (some ⟨w.heap.size, 0, none⟩)]] 162 (0, 0)) := by
  rw [hs1] at jp
  exact (hf2 _ (by simp [hs1]) (by omega) (by omega) (by simp [Value.ownBlock])).trans jp
 have b2 := blk_new w2 (.cells #[.slice A0 l0.length c0] 62)
 have b3 := blk_new (w2.alloc (.cells #[.slice A0 l0.length c0] 62)) (.cells #[.slice A1 l1.length c1] 62)
 simp only [World.size_alloc] at b2 b3
 have hB3 : Below w.heap.size w ((w2.alloc (.cells #[.slice A0 l0.length c0] 62)).alloc (.cells #[.slice A1 l1.length c1] 62)) := (hB2.alloc (by omega) _).alloc (by simp; omega) _
 have i0 : Sum ((w2.alloc (.cells #[.slice A0 l0.length c0] 62)).alloc (.cells #[.slice A1 l1.length c1] 62)) w.heap.size w.heap.size (w.heap.size + 1) (w.heap.size + 2) w2.heap.size (w2.heap.size + 1) (.func (.func 136) #[] #[.pointer (some ⟨w.heap.size + 1, 0, none⟩), .pointer (some ⟨w.heap.size, 0, none⟩)]) (.slice A0 l0.length c0) (.slice A1 l1.length c1) (subL []) :=
  ⟨⟨v2, ⟨blk_alloc (blk_alloc i2.o _) _, blk_alloc (blk_alloc i2.c _) _, Kd.R_alloc (Kd.R_alloc i2.r _) _⟩⟩, blk_alloc (blk_alloc p2 _) _, blk_alloc b2 _, b3⟩
 have hsz : ((w2.alloc (.cells #[.slice A0 l0.length c0] 62)).alloc (.cells #[.slice A1 l1.length c1] 62)).heap.size = w2.heap.size + 2 := by simp
 obtain ⟨w3, hw3⟩ : ∃ W, W = (w2.alloc (.cells #[.slice A0 l0.length c0] 62)).alloc (.cells #[.slice A1 l1.length c1] 62) := ⟨_, rfl⟩
 rw [← hw3] at hB3 i0 hsz ⊢
 refine wpIn_rangeFunc_ownF rfl (by omega) (gf := 108) (lb := #[.pointer (some ⟨w2.heap.size, 0, none⟩), .pointer (some ⟨w2.heap.size + 1, 0, none⟩)]) rfl trivial (enters_of Try.func108 m_13 rfl)
  (pairs_stops Fence.wide 5 trivial rfl (by omega) w2.heap.size (w2.heap.size + 1) w.heap.size c0 c1 A0 A1 l0 l1 (by omega) (by omega) w3 (by omega) (by omega) (by omega) ((blk_cell i0.a 0).trans rfl) ((blk_cell i0.b 0).trans rfl) (words_below hw0 hB3) (words_below hw1 hB3)) kpS_t (kpS_b (by omega) (by omega) (by omega)) (Below.refl _ _) (fun _ => rfl)
  (fun pre W => Sum W w.heap.size w.heap.size (w.heap.size + 1) (w.heap.size + 2) w2.heap.size (w2.heap.size + 1) (.func (.func 136) #[] #[.pointer (some ⟨w.heap.size + 1, 0, none⟩), .pointer (some ⟨w.heap.size, 0, none⟩)]) (.slice A0 l0.length c0) (.slice A1 l1.length c1) (subL pre) ∧ Below w.heap.size w W)
  (fun _ _ _ => False)
  (OwnFrom.and (Own.from (fun s A B row hs hg hr => hs.grown hg hr) _) (ownFrom_below (Nat.le_refl _) (by omega)))
  (fun _ _ _ _ _ hs _ _ => hs)
  ⟨i0, hB3⟩
  (fun x => { tmps := #[.slice A0 l0.length c0, .slice A1 l1.length c1, undef, undef, .slice none 0 0, .pointer (some ⟨w.heap.size + 2, 0, none⟩), .func (.func 137) #[] #[.pointer (some ⟨w.heap.size, 0, none⟩), .pointer (some ⟨w.heap.size + 1, 0, none⟩)], .int .u64 x.1, .int .u64 x.2, undef, .tuple #[.func (.func 136) #[] #[.pointer (some ⟨w.heap.size + 1, 0, none⟩), .pointer (some ⟨w.heap.size, 0, none⟩)], .func (.func 137) #[] #[.pointer (some ⟨w.heap.size, 0, none⟩), .pointer (some ⟨w.heap.size + 1, 0, none⟩)]], .tuple #[.func (.func 136) #[] #[.pointer (some ⟨w.heap.size + 1, 0, none⟩), .pointer (some ⟨w.heap.size, 0, none⟩)], .func (.func 137) #[] #[.pointer (some ⟨w.heap.size, 0, none⟩), .pointer (some ⟨w.heap.size + 1, 0, none⟩)]], .func (.func 136) #[] #[.pointer (some ⟨w.heap.size + 1, 0, none⟩), .pointer (some ⟨w.heap.size, 0, none⟩)], .func (.func 137) #[] #[.pointer (some ⟨w.heap.size, 0, none⟩), .pointer (some ⟨w.heap.size + 1, 0, none⟩)], .func (.func 136) #[] #[.pointer (some ⟨w.heap.size + 1, 0, none⟩), .pointer (some ⟨w.heap.size, 0, none⟩)], .tuple #[], .slice A0 l0.length c0, .slice A1 l1.length c1, .func (.func 108) #[] #[.pointer (some ⟨w2.heap.size, 0, none⟩), .pointer (some ⟨w2.heap.size + 1, 0, none⟩)], .int .u64 x.1, .int .u64 x.2, undef, undef, undef, undef, undef, undef, undef, undef, undef, undef, undef, undef, undef, undef], defers := [] }) ?assign ?body ?done ?stop
 case assign =>
  intro l x W K hK
  gi_wp2
  exact hK
 case body =>
  rintro l pre x W ⟨i, hB⟩ hlt
  obtain ⟨v, ic⟩ := i.k
  have hcp : W.cell? ⟨w.heap.size + 2, 0, none⟩ = some (.func (.func 136) #[] #[.pointer (some ⟨w.heap.size + 1, 0, none⟩), .pointer (some ⟨w.heap.size, 0, none⟩)]) := (blk_cell i.p 0).trans rfl
  have hlen : (subL pre).1.length < 1000000000000 := by
   rw [subL_length]
   omega
  gi_wp2_with (first | (gi_at_call 136; refine (CallsIn.inRound l (callsIn_wide.2 (put_calls ic hB (Nat.le_refl _) (Nat.le_refl _) (Nat.le_succ _) hlen _))).mono ?_; rintro e w3 ⟨rfl, v3, i3, hB3, hs3, hf3⟩) | (refine ⟨trivial, ?_⟩; gi_at_call 136; refine (CallsIn.inRound l (callsIn_wide.2 (put_calls ic hB (Nat.le_refl _) (Nat.le_refl _) (Nat.le_succ _) hlen _))).mono ?_; rintro e w3 ⟨rfl, v3, i3, hB3, hs3, hf3⟩))
  have hcells : ∀ {k : Nat} {o : Obj}, W.heap[k]? = some o → o.isCells = false → k ≠ w.heap.size ∧ k ≠ w.heap.size + 1 ∧ some k ≠ v.ownBlock := fun {k o} hk ho => by
   refine ⟨fun e => ?_, fun e => ?_, fun e => ?_⟩
   ·rw [e, ic.o] at hk; cases hk; simp [Obj.isCells] at ho
   ·rw [e, ic.c] at hk; cases hk; simp [Obj.isCells] at ho
   ·obtain ⟨_, _, _, q, _, cells, hc⟩ := (Kd.R_bound ic.r).1 k e.symm
    rw [hc] at hk; cases hk; simp [Obj.isCells] at ho
  refine ⟨⟨hs3, fun k o hk ho => ?_⟩, fun k hk => ?_, ⟨⟨v3, (by rw [subL_snoc]; exact i3)⟩, ?_, ?_, ?_⟩, hB3⟩
  ·obtain ⟨e1, e2, e3⟩ := hcells hk ho
   exact (hf3 k (blk_lt hk) e1 e2 e3).trans hk
  ·have hle := hB.size
   rcases hk with hk | rfl | rfl
   ·exact hf3 k (by omega) (by omega) (by omega) (fun e => by have := Kd.R_base ic.r k e.symm; omega)
   ·exact hf3 _ (blk_lt i.a) (by omega) (by omega) (Kd.R_ne ic.r i.a (by decide))
   ·exact hf3 _ (blk_lt i.b) (by omega) (by omega) (Kd.R_ne ic.r i.b (by decide))
  ·exact (hf3 _ (blk_lt i.p) (by omega) (by omega) (Kd.R_ne ic.r i.p (by decide))).trans i.p
  ·exact (hf3 _ (blk_lt i.a) (by omega) (by omega) (Kd.R_ne ic.r i.a (by decide))).trans i.a
  ·exact (hf3 _ (blk_lt i.b) (by omega) (by omega) (Kd.R_ne ic.r i.b (by decide))).trans i.b
 case done =>
  rintro D ys W hD rfl ⟨i, hB⟩ hK
  obtain ⟨v, ic⟩ := i.k
  have hlen : (subL (prs l0 l1 (max l0.length l1.length))).1.length < 1000000000000 := by
   rw [subL_length, prs_length]
   omega
  have hol := subOut_length l0 l1
  gi_wp2_with (first | (gi_at_call 137; refine (callsIn_wide.2 (all_calls ic hB (Nat.le_refl _) hlen)).mono ?_; rintro e w4 ⟨v3, rfl, hr3, hB4, hf3⟩; refine stopHere ?_) | (refine ⟨trivial, ?_⟩; gi_at_call 137; refine (callsIn_wide.2 (all_calls ic hB (Nat.le_refl _) hlen)).mono ?_; rintro e w4 ⟨v3, rfl, hr3, hB4, hf3⟩; refine stopHere ?_))
  intro _
  have hr4 : Kd.R (Kd.int .u32) 117 w4 w.heap.size (fun _ => True) v3 (subOut l0 l1) := hr3
  clear hr3
  have hK3 : w4.heap[D]? = some (.deferred (some [])) := (hf3 D (blk_lt hK) (fun e => by
   obtain ⟨_, _, _, q, _, cells, hc⟩ := (Kd.R_bound ic.r).1 D e.symm
   rw [hc] at hK; cases hK)).trans hK
  obtain ⟨g, cap, e3, hgb, hgl, _⟩ := Kd.R_form hr4 (by rw [hol]; omega)
  subst e3
  have hcap := (Kd.R_reads' hr4).2.1
  have hf4 := Kd.F_mid (lo := 1) (hi := (subOut l0 l1).length - 1) (Kd.R_F (Kd.R_bound hr4)) (by rw [hol]; omega) (by omega) hcap
  have hsl : (subF l0 l1).length = max l0.length l1.length + 2 - 1 - 1 := by simp [subF, hol]
  rw [if_neg (by rw [hol] at hcap; omega)] at hf4
  have ea : (some (⟨g, 0, none⟩ : Addr)).map (·.add (1 * (Kd.int .u32).sz)) = some ⟨g, 1, none⟩ := rfl
  rw [ea] at hf4
  have HV := Aside0.mk (Kd.V_mk (d := Kd.int .u32) (e := 117) (base := w.heap.size) (W := w4) (xs := subF l0 l1) (c := cap - 1) (by rw [hol] at hcap; omega) hf4)
  rw [hsl] at HV
  clear hf4
  obtain ⟨m, hm⟩ : ∃ m, m = max l0.length l1.length := ⟨_, rfl⟩
  rw [← hm] at hol
  have hmb : m ≤ 100000000000 := by omega
  rw [hol] at hcap ⊢
  gi_wp2
  refine ⟨(by simp), .inl ⟨_, _, rfl, run_takeDeferred hK3, ?_⟩⟩
  refine ⟨_, results_tmp rfl _ _ _, _, rfl, ?_, hB4.trans (belowK_b (w := w) (Nat.le_refl _) w4 D _ _ (by omega) hK3 rfl rfl)⟩
  refine Kd.V_mono (Kd.V_grown HV.out (grownBy_putObj' w4 D (.deferred none)) (fun k hk e => ?_)) (fun k hk => hk.2.1)
  obtain ⟨_, _, _, q, _, cells, hc⟩ := hk
  cases e
  rw [hc] at hK3
  cases hK3
 case stop =>
  rintro D c pre W _ _ h _
  exact h.elim
def whole_add.f (l0 l1 : List Int) : Option (List Int) := if l0.length ≤ 100000000000 then (if l1.length ≤ 100000000000 then some (addF l0 l1) else none) else none
def whole_sub.f (l0 l1 : List Int) : Option (List Int) := if l0.length ≤ 100000000000 then (if l1.length ≤ 100000000000 then some (subF l0 l1) else none) else none
def whole_cmp.f (l0 l1 : List Int) : Option Int := if l0.length ≤ 100000000000 then (if l1.length ≤ 100000000000 then some (cmpF l0 l1) else none) else none
theorem two_ifs {α : Type} {p q : Prop} [Decidable p] [Decidable q] {x r : α} (h : (if p then (if q then some x else none) else none) = some r) : p ∧ q ∧ x = r := by
 by_cases hp : p
 ·rw [if_pos hp] at h
  by_cases hq : q
  ·rw [if_pos hq] at h
   exact ⟨hp, hq, Option.some.inj h⟩
  ·rw [if_neg hq] at h
   cases h
 ·rw [if_neg hp] at h
  cases h
theorem whole_add.calls (A0 : Option Addr) (c0 : Nat) (l0 : List Int) (A1 : Option Addr) (c1 : Nat) (l1 : List Int) (r : List Int) (w : World) (hr0 : Kd.C (Kd.int .u32) w A0 l0.length l0) (hc0 : l0.length ≤ c0) (hr1 : Kd.C (Kd.int .u32) w A1 l1.length l1) (hc1 : l1.length ≤ c1) (h : whole_add.f l0 l1 = some r) :
  Calls Try.prog 120 #[.slice A0 l0.length c0, .slice A1 l1.length c1] w fun e w' => ∃ v0_ : Value, e = .returned (v0_) ∧ Kd.R (Kd.int .u32) 117 w' w.heap.size (fun _ => True) v0_ r ∧ Below w.heap.size w w' := by
 obtain ⟨h0, h1, rfl⟩ := two_ifs h
 exact add_calls A0 A1 c0 c1 l0 l1 h0 h1 w (words_of hr0) (words_of hr1)
theorem whole_sub.calls (A0 : Option Addr) (c0 : Nat) (l0 : List Int) (A1 : Option Addr) (c1 : Nat) (l1 : List Int) (r : List Int) (w : World) (hr0 : Kd.C (Kd.int .u32) w A0 l0.length l0) (hc0 : l0.length ≤ c0) (hr1 : Kd.C (Kd.int .u32) w A1 l1.length l1) (hc1 : l1.length ≤ c1) (h : whole_sub.f l0 l1 = some r) :
  Calls Try.prog 122 #[.slice A0 l0.length c0, .slice A1 l1.length c1] w fun e w' => ∃ v0_ : Value, e = .returned (v0_) ∧ Kd.V (Kd.int .u32) 117 w' w.heap.size (fun k_ => (w.heap.size ≤ k_)) v0_ r ∧ Below w.heap.size w w' := by
 obtain ⟨h0, h1, rfl⟩ := two_ifs h
 exact sub_calls A0 A1 c0 c1 l0 l1 h0 h1 w (words_of hr0) (words_of hr1)
theorem whole_cmp.calls (A0 : Option Addr) (c0 : Nat) (l0 : List Int) (A1 : Option Addr) (c1 : Nat) (l1 : List Int) (r : Int) (w : World) (hr0 : Kd.C (Kd.int .u32) w A0 l0.length l0) (hc0 : l0.length ≤ c0) (hr1 : Kd.C (Kd.int .u32) w A1 l1.length l1) (hc1 : l1.length ≤ c1) (h : whole_cmp.f l0 l1 = some r) :
  Calls Try.prog 121 #[.slice A0 l0.length c0, .slice A1 l1.length c1] w fun e w' => e = .returned (.int .i64 r) ∧ Below w.heap.size w w' := by
 obtain ⟨h0, h1, rfl⟩ := two_ifs h
 exact callsIn_wide.1 (cmp_in Fence.wide 6 trivial trivial trivial rfl (by omega) A0 A1 c0 c1 l0 l1 (by omega) (by omega) w (words_of hr0) (words_of hr1))
end Go.Proofs.Ytelklgdmhnkenaa.U
namespace Go.Proofs.Ytelklgdmhnkenaa.U
attribute [local go_sem] max2_int min2_int max_two min_two max_three min_three max_four min_four
def whole_Add.f (k : Nat) (a0_0 : Bool) (l0_1 : List Int) (a1_0 : Bool) (l1_1 : List Int) : Option (Bool × List Int) := (whole_trim.f k l0_1).bind fun t406 => ((whole_trim.f k l1_1).bind fun t409 => (if (a0_0 == a1_0) = true then ((whole_add.f t406 t409).bind fun t412 => ((whole_made.f k a0_0 t412).bind fun bt415 => (some (bt415.1, bt415.2)))) else ((whole_cmp.f t406 t409).bind fun t419 => (if t419 ≥ 0 then ((whole_sub.f t406 t409).bind fun t420 => ((whole_made.f k a0_0 t420).bind fun bt423 => (some (bt423.1, bt423.2)))) else ((whole_sub.f t409 t406).bind fun t427 => ((whole_made.f k a1_0 t427).bind fun bt430 => (some (bt430.1, bt430.2))))))))
def whole_Add.T1 : Bool × List (List Nat × List Nat) := (true, [([], []), ([0], [0]), ([1], [1]), ([], []), ([3], [3]), ([4, 2], [4]), ([2, 5, 0, 1, 2], [2]), ([5, 6, 0, 1, 2, 3, 4, 5, 6], [5])])
def whole_Add.B1 : List Nat := [0, 1, 3, 0, 8, 31, 63, 127]
theorem whole_Add.tab1 : rtab .any (opsOf Try.f99 1) = whole_Add.T1 := by kernel_rfl
theorem whole_Add.bits1 : waitsOk whole_Add.T1.2 whole_Add.B1 = true := by kernel_rfl
set_option maxHeartbeats 8000000 in
set_option maxRecDepth 100000 in
theorem whole_Add.calls (k : Nat) (a0_0 : Bool) (P0_1_ : Nat → Prop) (A0_1 : Option Addr) (c0_1 : Nat) (l0_1 : List Int) (a1_0 : Bool) (P1_1_ : Nat → Prop) (A1_1 : Option Addr) (c1_1 : Nat) (l1_1 : List Int) (r1 : Bool) (r2 : List Int) (w : World) (hs0_1 : Kd.V (Kd.int .u32) 117 w w.heap.size (fun k_ => P0_1_ k_) (.slice A0_1 l0_1.length c0_1) l0_1) (hs1_1 : Kd.V (Kd.int .u32) 117 w w.heap.size (fun k_ => P1_1_ k_) (.slice A1_1 l1_1.length c1_1) l1_1) (h : whole_Add.f k a0_0 l0_1 a1_0 l1_1 = some (r1, r2)) :
  Calls Try.prog 99 #[.agg #[.bool a0_0, .slice A0_1 l0_1.length c0_1], .agg #[.bool a1_0, .slice A1_1 l1_1.length c1_1]] w fun e w' => ∃ v1_ : Value, e = .returned (.agg #[.bool r1, v1_]) ∧ Kd.V (Kd.int .u32) 117 w' w.heap.size (fun k_ => ((P0_1_ k_ ∨ P1_1_ k_) ∨ w.heap.size ≤ k_)) v1_ r2 ∧ Below w.heap.size w w' := by
 have HO0_1 := Aside0.mk (show Kd.V (Kd.int .u32) 117 w w.heap.size (fun k_ => ((P0_1_ k_ ∨ P1_1_ k_) ∨ w.heap.size ≤ k_)) (.slice A0_1 l0_1.length c0_1) l0_1 from Kd.V_mono hs0_1 (fun k_ hk => .inl (.inl hk)))
 have HO1_1 := Aside0.mk (show Kd.V (Kd.int .u32) 117 w w.heap.size (fun k_ => ((P0_1_ k_ ∨ P1_1_ k_) ∨ w.heap.size ≤ k_)) (.slice A1_1 l1_1.length c1_1) l1_1 from Kd.V_mono hs1_1 (fun k_ hk => .inl (.inr hk)))
 have HB := Aside0.mk (Below.refl w.heap.size w)
 have H : ((whole_trim.f k l0_1).bind fun t406 => ((whole_trim.f k l1_1).bind fun t409 => (if (a0_0 == a1_0) = true then ((whole_add.f t406 t409).bind fun t412 => ((whole_made.f k a0_0 t412).bind fun bt415 => (some (bt415.1, bt415.2)))) else ((whole_cmp.f t406 t409).bind fun t419 => (if t419 ≥ 0 then ((whole_sub.f t406 t409).bind fun t420 => ((whole_made.f k a0_0 t420).bind fun bt423 => (some (bt423.1, bt423.2)))) else ((whole_sub.f t409 t406).bind fun t427 => ((whole_made.f k a1_0 t427).bind fun bt430 => (some (bt430.1, bt430.2))))))))) = some (r1, r2) := h
 clear h
 replace H := Option.bind_eq_some_iff.mp H
 obtain ⟨t406, A30, H⟩ := H
 replace H : ((whole_trim.f k l1_1).bind fun t409 => (if (a0_0 == a1_0) = true then ((whole_add.f t406 t409).bind fun t412 => ((whole_made.f k a0_0 t412).bind fun bt415 => (some (bt415.1, bt415.2)))) else ((whole_cmp.f t406 t409).bind fun t419 => (if t419 ≥ 0 then ((whole_sub.f t406 t409).bind fun t420 => ((whole_made.f k a0_0 t420).bind fun bt423 => (some (bt423.1, bt423.2)))) else ((whole_sub.f t409 t406).bind fun t427 => ((whole_made.f k a1_0 t427).bind fun bt430 => (some (bt430.1, bt430.2)))))))) = some (r1, r2) := H
 have A3 := Aside0.mk A30
 clear A30
 replace H := Option.bind_eq_some_iff.mp H
 obtain ⟨t409, A40, H⟩ := H
 replace H : (if (a0_0 == a1_0) = true then ((whole_add.f t406 t409).bind fun t412 => ((whole_made.f k a0_0 t412).bind fun bt415 => (some (bt415.1, bt415.2)))) else ((whole_cmp.f t406 t409).bind fun t419 => (if t419 ≥ 0 then ((whole_sub.f t406 t409).bind fun t420 => ((whole_made.f k a0_0 t420).bind fun bt423 => (some (bt423.1, bt423.2)))) else ((whole_sub.f t409 t406).bind fun t427 => ((whole_made.f k a1_0 t427).bind fun bt430 => (some (bt430.1, bt430.2))))))) = some (r1, r2) := H
 have A4 := Aside0.mk A40
 clear A40
 go_enter Try.func99, Try.ntmps99
 try go_wp2_with (first | ((with_reducible refine gate_dst (N := 2) rfl ?_); refine box_event ?hg (N := 2) ?hd (cs := #[.bool a0_0, .slice A0_1 l0_1.length c0_1]) (t := 64) ?hr ?_; (case hd => rfl); (case hg => rfl); (case hr => exact hr_); intro gb403 hg w8 hbox hb; have BK403 := Aside0.mk (hbox); replace HO0_1 := vE_ HO0_1 hg hb; replace HO1_1 := vE_ HO1_1 hg hb; replace HB := Aside0.mk (below_step m_1 hb); clear hb hbox hg) | ((with_reducible refine gate_dst (N := 3) rfl ?_); refine box_event ?hg (N := 3) ?hd (cs := #[.bool a1_0, .slice A1_1 l1_1.length c1_1]) (t := 64) ?hr ?_; (case hd => rfl); (case hg => rfl); (case hr => exact hr_); intro gb404 hg w9 hbox hb; have BK404 := Aside0.mk (hbox); replace HO0_1 := vE_ HO0_1 hg hb; replace HO1_1 := vE_ HO1_1 hg hb; replace BK403 := bB_ BK403 hb; replace HB := Aside0.mk (below_step m_107 hb); clear hb hbox hg) | ((with_reducible refine gate_dst (N := 4) rfl ?_); refine box_event ?hg (N := 4) ?hd (cs := #[.bool false, .slice none 0 0]) (t := 64) ?hr ?_; (case hd => rfl); (case hg => rfl); (case hr => exact hr_); intro gb405 hg w10 hbox hb; have BK405 := Aside0.mk (hbox); have GE405 := gW_ (w := w) hg m_87; have NB403_405 := nl_ BK403 hg; have NB404_405 := nl_ BK404 hg; replace HO0_1 := vE_ HO0_1 hg hb; replace HO1_1 := vE_ HO1_1 hg hb; replace BK403 := bB_ BK403 hb; replace BK404 := bB_ BK404 hb; replace HB := Aside0.mk (below_step m_87 hb); clear hb hbox hg))
 replace HO0_1 := vD_ HO0_1
 replace HO1_1 := vD_ HO1_1
 replace BK403 := bD_ BK403
 replace BK404 := bD_ BK404
 replace BK405 := bD_ BK405
 replace HB := Aside0.mk (below_drew1 HB.out)
 refine start_ (n := 8) (S := fun w' => w'.cell? ⟨gb403, 0, none⟩ = some (.bool a0_0) ∧ w'.cell? ⟨gb403, 1, none⟩ = some (.slice A0_1 l0_1.length c0_1) ∧ w'.cell? ⟨gb404, 0, none⟩ = some (.bool a1_0) ∧ w'.cell? ⟨gb404, 1, none⟩ = some (.slice A1_1 l1_1.length c1_1)) (ds := []) #[false, false, false, false, false, false, false, false] m_13 rfl rfl ⟨(blk_cell BK403.out 0).trans rfl, (blk_cell BK403.out 1).trans rfl, (blk_cell BK404.out 0).trans rfl, (blk_cell BK404.out 1).trans rfl⟩ (fun hHeld => ?_); refine with_tabW whole_Add.tab1 whole_Add.bits1 (fun HT_ HW_ => ?_)
 generalize w10.drew = w11 at HO0_1 HO1_1 BK403 BK404 BK405 HB hHeld ⊢
 refine pA_ 0 HT_.out ?_
 refine pA_ 3 HT_.out ?_
 refine tA_ 1 HT_.out HW_.out hHeld ?_
 refine tA_ 4 HT_.out HW_.out hHeld ?_
 refine cB_1 2 Try.func88 (args := #[.slice A0_1 l0_1.length c0_1]) ?_
 with_reducible refine (whole_trim.calls k (fun k_ => (((((P0_1_ k_ ∨ P1_1_ k_) ∨ w.heap.size ≤ k_) ∧ k_ ≠ gb403) ∧ k_ ≠ gb404) ∧ k_ ≠ gb405)) _ _ l0_1 t406 _ ?side1 A3.out).mono ?_
 (case side1 => exact HO0_1.out)
 rintro e w12 ⟨v407, rfl, ho0, hb⟩
 refine ⟨_, rfl, ?_⟩
 have HO408 := Aside0.mk (Kd.V_lower (Kd.V_mono (ok' := fun k_ => ((P0_1_ k_ ∨ P1_1_ k_) ∨ w.heap.size ≤ k_) ∧ k_ ≠ gb403 ∧ k_ ≠ gb404 ∧ k_ ≠ gb405) ho0 (fun k_ hk_ => ⟨Or.elim hk_ (fun hs_ => hs_.1.1.1) (fun hn_ => (.inr (Nat.le_trans (below_size m_6) hn_))), Or.elim hk_ (fun hs_ => hs_.1.1.2) (fun hn_ => (Kd.freshB (bA_ BK403.out) k_ hn_)), Or.elim hk_ (fun hs_ => hs_.1.2) (fun hn_ => (Kd.freshB (bA_ BK404.out) k_ hn_)), Or.elim hk_ (fun hs_ => hs_.2) (fun hn_ => (Kd.freshB (bA_ BK405.out) k_ hn_))⟩)) (below_size m_6))
 replace HO0_1 := vB_ HO0_1 hb
 replace HO1_1 := vB_ HO1_1 hb
 replace BK403 := bB_ BK403 hb
 replace BK404 := bB_ BK404 hb
 replace BK405 := bB_ BK405 hb
 replace HB := Aside0.mk (below_step m_6 hb)
 (try clear hb); (try clear hb2); (try clear hk); (try clear hi); (try clear ho0)
 refine nx_ ⟨(blk_cell BK403.out 0).trans rfl, (blk_cell BK403.out 1).trans rfl, (blk_cell BK404.out 0).trans rfl, (blk_cell BK404.out 1).trans rfl⟩ (fun hHeld => ?_)
 refine cB_1 5 Try.func88 (args := #[.slice A1_1 l1_1.length c1_1]) ?_
 with_reducible refine (whole_trim.calls k (fun k_ => (((((P0_1_ k_ ∨ P1_1_ k_) ∨ w.heap.size ≤ k_) ∧ k_ ≠ gb403) ∧ k_ ≠ gb404) ∧ k_ ≠ gb405)) _ _ l1_1 t409 _ ?side1 A4.out).mono ?_
 (case side1 => exact HO1_1.out)
 rintro e w13 ⟨v410, rfl, ho0, hb⟩
 refine ⟨_, rfl, ?_⟩
 have HO411 := Aside0.mk (Kd.V_lower (Kd.V_mono (ok' := fun k_ => ((P0_1_ k_ ∨ P1_1_ k_) ∨ w.heap.size ≤ k_) ∧ k_ ≠ gb403 ∧ k_ ≠ gb404 ∧ k_ ≠ gb405) ho0 (fun k_ hk_ => ⟨Or.elim hk_ (fun hs_ => hs_.1.1.1) (fun hn_ => (.inr (Nat.le_trans (below_size m_6) hn_))), Or.elim hk_ (fun hs_ => hs_.1.1.2) (fun hn_ => (Kd.freshB (bA_ BK403.out) k_ hn_)), Or.elim hk_ (fun hs_ => hs_.1.2) (fun hn_ => (Kd.freshB (bA_ BK404.out) k_ hn_)), Or.elim hk_ (fun hs_ => hs_.2) (fun hn_ => (Kd.freshB (bA_ BK405.out) k_ hn_))⟩)) (below_size m_6))
 replace HO0_1 := vB_ HO0_1 hb
 replace HO1_1 := vB_ HO1_1 hb
 replace HO408 := vB_ HO408 hb
 replace BK403 := bB_ BK403 hb
 replace BK404 := bB_ BK404 hb
 replace BK405 := bB_ BK405 hb
 replace HB := Aside0.mk (below_step m_6 hb)
 (try clear hb); (try clear hb2); (try clear hk); (try clear hi); (try clear ho0)
 refine nx_ ⟨(blk_cell BK403.out 0).trans rfl, (blk_cell BK403.out 1).trans rfl, (blk_cell BK404.out 0).trans rfl, (blk_cell BK404.out 1).trans rfl⟩ (fun hHeld => ?_)
 refine pA_ 6 HT_.out ?_
 refine pA_ 7 HT_.out ?_
 refine done_ (done_of HT_.out m_13) ?_
 obtain ⟨hcz16_0, hcz16_1, hfz16_0, hfz16_1⟩ := cf2_ BK403
 obtain ⟨hcz18_0, hcz18_1, hfz18_0, hfz18_1⟩ := cf2_ BK404
 by_cases c5 : (a0_0 == a1_0) = true
 ·rw [if_pos c5] at H
  have c5b0 : (a0_0 == a1_0) = true := c5
  clear c5
  replace H := Option.bind_eq_some_iff.mp H
  obtain ⟨t412, A60, H⟩ := H
  replace H : ((whole_made.f k a0_0 t412).bind fun bt415 => (some (bt415.1, bt415.2))) = some (r1, r2) := H
  have A6 := Aside0.mk A60
  clear A60
  replace H := Option.bind_eq_some_iff.mp H
  obtain ⟨⟨t415, t416⟩, A70, H⟩ := H
  replace H : (some (t415, t416)) = some (r1, r2) := H
  have A7 := Aside0.mk A70
  clear A70
  simp only [Option.some.injEq, Prod.mk.injEq] at H
  obtain ⟨rfl, rfl⟩ := H
  try go_wp2
  replace HO0_1 := vD_ HO0_1
  replace HO1_1 := vD_ HO1_1
  replace HO408 := vD_ HO408
  replace HO411 := vD_ HO411
  replace BK403 := bD_ BK403
  replace BK404 := bD_ BK404
  replace BK405 := bD_ BK405
  replace HB := Aside0.mk (below_drew1 HB.out)
  obtain ⟨Ao20, co20, eo20⟩ := Kd.V_slice HO408.out
  (first | subst eo20 | (injection eo20 with f1_ f2_ f3_; have f4_ := f1_.symm; have f5_ := f3_.symm; clear f1_ f2_ f3_; subst f4_; subst f5_))
  obtain ⟨Ao21, co21, eo21⟩ := Kd.V_slice HO411.out
  (first | subst eo21 | (injection eo21 with f1_ f2_ f3_; have f4_ := f1_.symm; have f5_ := f3_.symm; clear f1_ f2_ f3_; subst f4_; subst f5_))
  refine start_ (n := 7) (S := fun w' => w'.cell? ⟨gb403, 0, none⟩ = some (.bool a0_0) ∧ w'.cell? ⟨gb403, 1, none⟩ = some (.slice A0_1 l0_1.length c0_1)) (ds := []) #[false, false, false, false, false, false, false] m_13 rfl rfl ⟨(blk_cell BK403.out 0).trans rfl, (blk_cell BK403.out 1).trans rfl⟩ (fun hHeld => ?_)
  generalize w13.drew = w19 at HO0_1 HO1_1 HO408 HO411 BK403 BK404 BK405 HB hHeld ⊢
  refine pB_ 0 ?_
  refine pB_ 2 ?_
  refine pB_ 3 ?_
  refine tB_ 1 hHeld ?_
  refine cB_1 4 Try.func120 (args := #[.slice Ao20 t406.length co20, .slice Ao21 t409.length co21]) ?_
  with_reducible refine (whole_add.calls _ _ t406 _ _ t409 t412 _ ?side1 ?side2 ?side3 ?side4 A6.out).mono ?_
  (case side1 => exact cA_ (Kd.V_reads' HO408.out).2.2)
  (case side2 => exact (Kd.V_reads' HO408.out).2.1)
  (case side3 => exact cA_ (Kd.V_reads' HO411.out).2.2)
  (case side4 => exact (Kd.V_reads' HO411.out).2.1)
  rintro e w22 ⟨v413, rfl, ho0, hb⟩
  refine ⟨_, rfl, ?_⟩
  have HO414 := Aside0.mk (Kd.R_lower (Kd.R_newM (M := fun k_ => (w.heap.size ≤ k_)) ho0 (below_size m_6) (fun k_ h_ => h_)) (below_size m_6))
  replace HO0_1 := Aside0.mk (Kd.V_elder' (vA_ HO0_1.out) (Kd.R_base ho0) hb)
  replace HO1_1 := Aside0.mk (Kd.V_elder' (vA_ HO1_1.out) (Kd.R_base ho0) hb)
  replace HO408 := Aside0.mk (Kd.V_elder' (vA_ HO408.out) (Kd.R_base ho0) hb)
  replace HO411 := Aside0.mk (Kd.V_elder' (vA_ HO411.out) (Kd.R_base ho0) hb)
  replace BK403 := bB_ BK403 hb
  replace BK404 := bB_ BK404 hb
  replace BK405 := bB_ BK405 hb
  replace HB := Aside0.mk (below_step m_6 hb)
  (try clear hb); (try clear hb2); (try clear hk); (try clear hi); (try clear ho0)
  obtain ⟨Ao23, co23, eo23⟩ := Kd.R_slice HO414.out
  (first | subst eo23 | (injection eo23 with f1_ f2_ f3_; have f4_ := f1_.symm; have f5_ := f3_.symm; clear f1_ f2_ f3_; subst f4_; subst f5_))
  refine nx_ ⟨(blk_cell BK403.out 0).trans rfl, (blk_cell BK403.out 1).trans rfl⟩ (fun hHeld => ?_)
  refine cB_1 5 Try.func81 (args := #[.bool a0_0, .slice Ao23 t412.length co23]) ?_
  with_reducible refine (whole_made.calls k a0_0 (fun k_ => some k_ = (.slice Ao23 t412.length co23 : Value).ownBlock) _ _ t412 t415 t416 _ ?side1 A7.out).mono ?_
  (case side1 => exact Kd.R_V (Kd.R_tight rfl (Kd.R_types (Kd.R_types (Kd.R_types (HO414.out) BK403.out (by decide)) BK404.out (by decide)) BK405.out (by decide))))
  rintro e w24 ⟨v417, rfl, ho0, hb⟩
  refine ⟨_, rfl, ?_⟩
  have HO418 := Aside0.mk (Kd.V_lower (Kd.V_mono (ok' := fun k_ => ((P0_1_ k_ ∨ P1_1_ k_) ∨ w.heap.size ≤ k_) ∧ k_ ≠ gb403 ∧ k_ ≠ gb404 ∧ k_ ≠ gb405) ho0 (fun k_ hk_ => ⟨Or.elim hk_ (fun hs_ => (.inr (((Kd.R_types (Kd.R_types (Kd.R_types (HO414.out) BK403.out (by decide)) BK404.out (by decide)) BK405.out (by decide)).1 k_ hs_.symm).1.1.1.1))) (fun hn_ => (.inr (Nat.le_trans (below_size m_6) hn_))), Or.elim hk_ (fun hs_ => ((Kd.R_types (Kd.R_types (Kd.R_types (HO414.out) BK403.out (by decide)) BK404.out (by decide)) BK405.out (by decide)).1 k_ hs_.symm).1.1.2) (fun hn_ => (Kd.freshB (bA_ BK403.out) k_ hn_)), Or.elim hk_ (fun hs_ => ((Kd.R_types (Kd.R_types (Kd.R_types (HO414.out) BK403.out (by decide)) BK404.out (by decide)) BK405.out (by decide)).1 k_ hs_.symm).1.2) (fun hn_ => (Kd.freshB (bA_ BK404.out) k_ hn_)), Or.elim hk_ (fun hs_ => ((Kd.R_types (Kd.R_types (Kd.R_types (HO414.out) BK403.out (by decide)) BK404.out (by decide)) BK405.out (by decide)).1 k_ hs_.symm).2) (fun hn_ => (Kd.freshB (bA_ BK405.out) k_ hn_))⟩)) (below_size m_6))
  replace BK403 := bB_ BK403 hb
  replace BK405 := bB_ BK405 hb
  replace HB := Aside0.mk (below_step m_6 hb)
  (try clear hb); (try clear hb2); (try clear hk); (try clear hi); (try clear ho0)
  obtain ⟨Ao26, co26, eo26⟩ := Kd.V_slice HO418.out
  (first | subst eo26 | (injection eo26 with f1_ f2_ f3_; have f4_ := f1_.symm; have f5_ := f3_.symm; clear f1_ f2_ f3_; subst f4_; subst f5_))
  refine nx_ ⟨(blk_cell BK403.out 0).trans rfl, (blk_cell BK403.out 1).trans rfl⟩ (fun hHeld => ?_)
  refine one_ (i := 6) (N := none) #[true, true, true, true, true, true, true] rfl rfl m_13 (by decide) (fun K hK => ?_)
  have hs25 : w24.cell? ⟨gb405, 0, none⟩ = some (.bool false) := (blk_cell BK405.out 0).trans rfl
  have hfs25 := blk_frozen BK405.out 0
  have hs27 : w24.cell? ⟨gb405, 1, none⟩ = some (.slice none 0 0) := (blk_cell BK405.out 1).trans rfl
  have hfs27 := blk_frozen BK405.out 1
  refine skip_ (w1 := ?_) (by rfl) rfl ?_ ?_
  rotate_left
  ·go_simp
   rfl
  refine hK.out _ _ ⟨((cell_far (p := ⟨gb405, _, none⟩) NB403_405.out _).trans (((cell_far (p := ⟨gb405, _, none⟩) NB403_405.out _).trans (hHeld.1)))), ((cell_far (p := ⟨gb405, _, none⟩) NB403_405.out _).trans (((cell_far (p := ⟨gb405, _, none⟩) NB403_405.out _).trans (hHeld.2))))⟩ (fun hHeld => ?_)
  clear hK K
  refine done_ m_13 ?_
  try go_wp2
  refine bodyPost_ret (results_cell_row rfl _ _ gb405 64 #[.bool t415, .slice Ao26 t416.length co26] (0, 0) _ rfl (by (with_reducible repeat (first | refine blk_drewN ?_ _ | refine blk_drew ?_ | refine blk_alloc ?_ _)); refine blk_put (cs := #[.bool t415, .slice none 0 0]) ?_ 1 _ rfl; (with_reducible repeat (first | refine blk_drewN ?_ _ | refine blk_drew ?_ | refine blk_alloc ?_ _)); refine blk_put (cs := #[.bool false, .slice none 0 0]) ?_ 0 _ rfl; (with_reducible repeat (first | refine blk_drewN ?_ _ | refine blk_drew ?_ | refine blk_alloc ?_ _)); exact BK405.out) Try.underlying64 rfl m_13) rfl ?_
  exact ⟨_, m_5, (by (with_reducible repeat (first | apply Kd.V_alloc | apply Kd.V_drewN | apply Kd.V_drew)); exact Kd.V_mono (Kd.V_far (p := ⟨gb405, 1, none⟩) (Kd.V_far (p := ⟨gb405, 0, none⟩) (Kd.V_mono HO418.out (fun k_ hk => (⟨hk, hk.2.2.2⟩ : _ ∧ k_ ≠ gb405))) (fun _ hk => hk.2) (.bool t415)) (fun _ hk => hk.2) (.slice Ao26 t416.length co26)) (fun _ hk => hk.1.1)), m_6⟩
 ·rw [if_neg c5] at H
  have c5b0 : (a0_0 == a1_0) = false := by simpa using c5
  clear c5
  replace H := Option.bind_eq_some_iff.mp H
  obtain ⟨t419, A280, H⟩ := H
  replace H : (if t419 ≥ 0 then ((whole_sub.f t406 t409).bind fun t420 => ((whole_made.f k a0_0 t420).bind fun bt423 => (some (bt423.1, bt423.2)))) else ((whole_sub.f t409 t406).bind fun t427 => ((whole_made.f k a1_0 t427).bind fun bt430 => (some (bt430.1, bt430.2))))) = some (r1, r2) := H
  have A28 := Aside0.mk A280
  clear A280
  obtain ⟨Ao43, co43, eo43⟩ := Kd.V_slice HO408.out
  subst eo43
  obtain ⟨Ao44, co44, eo44⟩ := Kd.V_slice HO411.out
  subst eo44
  by_cases c29 : t419 ≥ 0
  ·rw [if_pos c29] at H
   have c29b0 : decide (0 ≤ t419) = true := decide_eq_true c29
   clear c29
   replace H := Option.bind_eq_some_iff.mp H
   obtain ⟨t420, A300, H⟩ := H
   replace H : ((whole_made.f k a0_0 t420).bind fun bt423 => (some (bt423.1, bt423.2))) = some (r1, r2) := H
   have A30 := Aside0.mk A300
   clear A300
   replace H := Option.bind_eq_some_iff.mp H
   obtain ⟨⟨t423, t424⟩, A310, H⟩ := H
   replace H : (some (t423, t424)) = some (r1, r2) := H
   have A31 := Aside0.mk A310
   clear A310
   simp only [Option.some.injEq, Prod.mk.injEq] at H
   obtain ⟨rfl, rfl⟩ := H
   try go_wp2_with (first | ((with_reducible refine gate_callee (f := 121) rfl ?_); refine goesL_ (some 28) rfl rfl Try.func121 m_13 rfl #[.slice Ao43 t406.length co43, .slice Ao44 t409.length co44] rfl m_2 ?_; (with_reducible refine (whole_cmp.calls _ _ t406 _ _ t409 t419 _ ?side1 ?side2 ?side3 ?side4 A28.out).mono ?_); (case side1 => exact cA_ (Kd.V_reads' HO408.out).2.2); (case side2 => exact (Kd.V_reads' HO408.out).2.1); (case side3 => exact cA_ (Kd.V_reads' HO411.out).2.2); (case side4 => exact (Kd.V_reads' HO411.out).2.1); rintro e w45 ⟨rfl, hb⟩; refine ⟨_, rfl, ?_⟩; replace HO408 := vB_ HO408 hb; replace HO411 := vB_ HO411 hb; replace BK403 := bB_ BK403 hb; replace BK404 := bB_ BK404 hb; replace BK405 := bB_ BK405 hb; replace HB := Aside0.mk (below_step m_6 hb); clear hb))
   replace HO408 := vD_ HO408
   replace HO411 := vD_ HO411
   replace BK403 := bD_ BK403
   replace BK404 := bD_ BK404
   replace BK405 := bD_ BK405
   replace HB := Aside0.mk (below_drew1 HB.out)
   refine start_ (n := 7) (S := fun w' => w'.cell? ⟨gb403, 0, none⟩ = some (.bool a0_0) ∧ w'.cell? ⟨gb403, 1, none⟩ = some (.slice A0_1 l0_1.length c0_1)) (ds := []) #[false, false, false, false, false, false, false] m_13 rfl rfl ⟨(blk_cell BK403.out 0).trans rfl, (blk_cell BK403.out 1).trans rfl⟩ (fun hHeld => ?_)
   generalize w45.drew = w46 at HO408 HO411 BK403 BK404 BK405 HB hHeld ⊢
   refine pB_ 0 ?_
   refine pB_ 2 ?_
   refine pB_ 3 ?_
   refine tB_ 1 hHeld ?_
   refine cB_1 4 Try.func122 (args := #[.slice Ao43 t406.length co43, .slice Ao44 t409.length co44]) ?_
   with_reducible refine (whole_sub.calls _ _ t406 _ _ t409 t420 _ ?side1 ?side2 ?side3 ?side4 A30.out).mono ?_
   (case side1 => exact cA_ (Kd.V_reads' HO408.out).2.2)
   (case side2 => exact (Kd.V_reads' HO408.out).2.1)
   (case side3 => exact cA_ (Kd.V_reads' HO411.out).2.2)
   (case side4 => exact (Kd.V_reads' HO411.out).2.1)
   rintro e w47 ⟨v421, rfl, ho0, hb⟩
   refine ⟨_, rfl, ?_⟩
   have HO422 := Aside0.mk (Kd.V_lower (Kd.V_mono (ok' := fun k_ => ((P0_1_ k_ ∨ P1_1_ k_) ∨ w.heap.size ≤ k_) ∧ k_ ≠ gb403 ∧ k_ ≠ gb404 ∧ k_ ≠ gb405) ho0 (fun k_ hk_ => ⟨(.inr (Nat.le_trans (below_size m_6) hk_)), (Kd.freshB (bA_ BK403.out) k_ hk_), (Kd.freshB (bA_ BK404.out) k_ hk_), (Kd.freshB (bA_ BK405.out) k_ hk_)⟩)) (below_size m_6))
   replace BK403 := bB_ BK403 hb
   replace BK404 := bB_ BK404 hb
   replace BK405 := bB_ BK405 hb
   replace HB := Aside0.mk (below_step m_6 hb)
   (try clear hb); (try clear hb2); (try clear hk); (try clear hi); (try clear ho0)
   obtain ⟨Ao48, co48, eo48⟩ := Kd.V_slice HO422.out
   (first | subst eo48 | (injection eo48 with f1_ f2_ f3_; have f4_ := f1_.symm; have f5_ := f3_.symm; clear f1_ f2_ f3_; subst f4_; subst f5_))
   refine nx_ ⟨(blk_cell BK403.out 0).trans rfl, (blk_cell BK403.out 1).trans rfl⟩ (fun hHeld => ?_)
   refine cB_1 5 Try.func81 (args := #[.bool a0_0, .slice Ao48 t420.length co48]) ?_
   with_reducible refine (whole_made.calls k a0_0 (fun k_ => (((P0_1_ k_ ∨ P1_1_ k_) ∨ w.heap.size ≤ k_) ∧ (k_ ≠ gb403 ∧ (k_ ≠ gb404 ∧ k_ ≠ gb405)))) _ _ t420 t423 t424 _ ?side1 A31.out).mono ?_
   (case side1 => exact HO422.out)
   rintro e w49 ⟨v425, rfl, ho0, hb⟩
   refine ⟨_, rfl, ?_⟩
   have HO426 := Aside0.mk (Kd.V_lower (Kd.V_mono (ok' := fun k_ => ((P0_1_ k_ ∨ P1_1_ k_) ∨ w.heap.size ≤ k_) ∧ k_ ≠ gb403 ∧ k_ ≠ gb404 ∧ k_ ≠ gb405) ho0 (fun k_ hk_ => ⟨Or.elim hk_ (fun hs_ => hs_.1) (fun hn_ => (.inr (Nat.le_trans (below_size m_6) hn_))), Or.elim hk_ (fun hs_ => hs_.2.1) (fun hn_ => (Kd.freshB (bA_ BK403.out) k_ hn_)), Or.elim hk_ (fun hs_ => hs_.2.2.1) (fun hn_ => (Kd.freshB (bA_ BK404.out) k_ hn_)), Or.elim hk_ (fun hs_ => hs_.2.2.2) (fun hn_ => (Kd.freshB (bA_ BK405.out) k_ hn_))⟩)) (below_size m_6))
   replace BK403 := bB_ BK403 hb
   replace BK405 := bB_ BK405 hb
   replace HB := Aside0.mk (below_step m_6 hb)
   (try clear hb); (try clear hb2); (try clear hk); (try clear hi); (try clear ho0)
   obtain ⟨Ao51, co51, eo51⟩ := Kd.V_slice HO426.out
   (first | subst eo51 | (injection eo51 with f1_ f2_ f3_; have f4_ := f1_.symm; have f5_ := f3_.symm; clear f1_ f2_ f3_; subst f4_; subst f5_))
   refine nx_ ⟨(blk_cell BK403.out 0).trans rfl, (blk_cell BK403.out 1).trans rfl⟩ (fun hHeld => ?_)
   refine one_ (i := 6) (N := none) #[true, true, true, true, true, true, true] rfl rfl m_13 (by decide) (fun K hK => ?_)
   have hs50 : w49.cell? ⟨gb405, 0, none⟩ = some (.bool false) := (blk_cell BK405.out 0).trans rfl
   have hfs50 := blk_frozen BK405.out 0
   have hs52 : w49.cell? ⟨gb405, 1, none⟩ = some (.slice none 0 0) := (blk_cell BK405.out 1).trans rfl
   have hfs52 := blk_frozen BK405.out 1
   refine skip_ (w1 := ?_) (by rfl) rfl ?_ ?_
   rotate_left
   ·go_simp
    rfl
   refine hK.out _ _ ⟨((cell_far (p := ⟨gb405, _, none⟩) NB403_405.out _).trans (((cell_far (p := ⟨gb405, _, none⟩) NB403_405.out _).trans (hHeld.1)))), ((cell_far (p := ⟨gb405, _, none⟩) NB403_405.out _).trans (((cell_far (p := ⟨gb405, _, none⟩) NB403_405.out _).trans (hHeld.2))))⟩ (fun hHeld => ?_)
   clear hK K
   refine done_ m_13 ?_
   try go_wp2
   refine bodyPost_ret (results_cell_row rfl _ _ gb405 64 #[.bool t423, .slice Ao51 t424.length co51] (0, 0) _ rfl (by (with_reducible repeat (first | refine blk_drewN ?_ _ | refine blk_drew ?_ | refine blk_alloc ?_ _)); refine blk_put (cs := #[.bool t423, .slice none 0 0]) ?_ 1 _ rfl; (with_reducible repeat (first | refine blk_drewN ?_ _ | refine blk_drew ?_ | refine blk_alloc ?_ _)); refine blk_put (cs := #[.bool false, .slice none 0 0]) ?_ 0 _ rfl; (with_reducible repeat (first | refine blk_drewN ?_ _ | refine blk_drew ?_ | refine blk_alloc ?_ _)); exact BK405.out) Try.underlying64 rfl m_13) rfl ?_
   exact ⟨_, m_5, (by (with_reducible repeat (first | apply Kd.V_alloc | apply Kd.V_drewN | apply Kd.V_drew)); exact Kd.V_mono (Kd.V_far (p := ⟨gb405, 1, none⟩) (Kd.V_far (p := ⟨gb405, 0, none⟩) (Kd.V_mono HO426.out (fun k_ hk => (⟨hk, hk.2.2.2⟩ : _ ∧ k_ ≠ gb405))) (fun _ hk => hk.2) (.bool t423)) (fun _ hk => hk.2) (.slice Ao51 t424.length co51)) (fun _ hk => hk.1.1)), m_6⟩
  ·rw [if_neg c29] at H
   have c29b0 : decide (0 ≤ t419) = false := decide_eq_false c29
   clear c29
   replace H := Option.bind_eq_some_iff.mp H
   obtain ⟨t427, A530, H⟩ := H
   replace H : ((whole_made.f k a1_0 t427).bind fun bt430 => (some (bt430.1, bt430.2))) = some (r1, r2) := H
   have A53 := Aside0.mk A530
   clear A530
   replace H := Option.bind_eq_some_iff.mp H
   obtain ⟨⟨t430, t431⟩, A540, H⟩ := H
   replace H : (some (t430, t431)) = some (r1, r2) := H
   have A54 := Aside0.mk A540
   clear A540
   simp only [Option.some.injEq, Prod.mk.injEq] at H
   obtain ⟨rfl, rfl⟩ := H
   try go_wp2_with (first | ((with_reducible refine gate_callee (f := 121) rfl ?_); refine goesL_ (some 28) rfl rfl Try.func121 m_13 rfl #[.slice Ao43 t406.length co43, .slice Ao44 t409.length co44] rfl m_2 ?_; (with_reducible refine (whole_cmp.calls _ _ t406 _ _ t409 t419 _ ?side1 ?side2 ?side3 ?side4 A28.out).mono ?_); (case side1 => exact cA_ (Kd.V_reads' HO408.out).2.2); (case side2 => exact (Kd.V_reads' HO408.out).2.1); (case side3 => exact cA_ (Kd.V_reads' HO411.out).2.2); (case side4 => exact (Kd.V_reads' HO411.out).2.1); rintro e w68 ⟨rfl, hb⟩; refine ⟨_, rfl, ?_⟩; replace HO408 := vB_ HO408 hb; replace HO411 := vB_ HO411 hb; replace BK403 := bB_ BK403 hb; replace BK404 := bB_ BK404 hb; replace BK405 := bB_ BK405 hb; replace HB := Aside0.mk (below_step m_6 hb); clear hb))
   replace HO408 := vD_ HO408
   replace HO411 := vD_ HO411
   replace BK403 := bD_ BK403
   replace BK404 := bD_ BK404
   replace BK405 := bD_ BK405
   replace HB := Aside0.mk (below_drew1 HB.out)
   refine start_ (n := 7) (S := fun w' => w'.cell? ⟨gb404, 0, none⟩ = some (.bool a1_0) ∧ w'.cell? ⟨gb404, 1, none⟩ = some (.slice A1_1 l1_1.length c1_1)) (ds := []) #[false, false, false, false, false, false, false] m_13 rfl rfl ⟨(blk_cell BK404.out 0).trans rfl, (blk_cell BK404.out 1).trans rfl⟩ (fun hHeld => ?_)
   generalize w68.drew = w69 at HO408 HO411 BK403 BK404 BK405 HB hHeld ⊢
   refine pB_ 0 ?_
   refine pB_ 2 ?_
   refine pB_ 3 ?_
   refine tB_ 1 hHeld ?_
   refine cB_1 4 Try.func122 (args := #[.slice Ao44 t409.length co44, .slice Ao43 t406.length co43]) ?_
   with_reducible refine (whole_sub.calls _ _ t409 _ _ t406 t427 _ ?side1 ?side2 ?side3 ?side4 A53.out).mono ?_
   (case side1 => exact cA_ (Kd.V_reads' HO411.out).2.2)
   (case side2 => exact (Kd.V_reads' HO411.out).2.1)
   (case side3 => exact cA_ (Kd.V_reads' HO408.out).2.2)
   (case side4 => exact (Kd.V_reads' HO408.out).2.1)
   rintro e w70 ⟨v428, rfl, ho0, hb⟩
   refine ⟨_, rfl, ?_⟩
   have HO429 := Aside0.mk (Kd.V_lower (Kd.V_mono (ok' := fun k_ => ((P0_1_ k_ ∨ P1_1_ k_) ∨ w.heap.size ≤ k_) ∧ k_ ≠ gb403 ∧ k_ ≠ gb404 ∧ k_ ≠ gb405) ho0 (fun k_ hk_ => ⟨(.inr (Nat.le_trans (below_size m_6) hk_)), (Kd.freshB (bA_ BK403.out) k_ hk_), (Kd.freshB (bA_ BK404.out) k_ hk_), (Kd.freshB (bA_ BK405.out) k_ hk_)⟩)) (below_size m_6))
   replace BK403 := bB_ BK403 hb
   replace BK404 := bB_ BK404 hb
   replace BK405 := bB_ BK405 hb
   replace HB := Aside0.mk (below_step m_6 hb)
   (try clear hb); (try clear hb2); (try clear hk); (try clear hi); (try clear ho0)
   obtain ⟨Ao71, co71, eo71⟩ := Kd.V_slice HO429.out
   (first | subst eo71 | (injection eo71 with f1_ f2_ f3_; have f4_ := f1_.symm; have f5_ := f3_.symm; clear f1_ f2_ f3_; subst f4_; subst f5_))
   refine nx_ ⟨(blk_cell BK404.out 0).trans rfl, (blk_cell BK404.out 1).trans rfl⟩ (fun hHeld => ?_)
   refine cB_1 5 Try.func81 (args := #[.bool a1_0, .slice Ao71 t427.length co71]) ?_
   with_reducible refine (whole_made.calls k a1_0 (fun k_ => (((P0_1_ k_ ∨ P1_1_ k_) ∨ w.heap.size ≤ k_) ∧ (k_ ≠ gb403 ∧ (k_ ≠ gb404 ∧ k_ ≠ gb405)))) _ _ t427 t430 t431 _ ?side1 A54.out).mono ?_
   (case side1 => exact HO429.out)
   rintro e w72 ⟨v432, rfl, ho0, hb⟩
   refine ⟨_, rfl, ?_⟩
   have HO433 := Aside0.mk (Kd.V_lower (Kd.V_mono (ok' := fun k_ => ((P0_1_ k_ ∨ P1_1_ k_) ∨ w.heap.size ≤ k_) ∧ k_ ≠ gb403 ∧ k_ ≠ gb404 ∧ k_ ≠ gb405) ho0 (fun k_ hk_ => ⟨Or.elim hk_ (fun hs_ => hs_.1) (fun hn_ => (.inr (Nat.le_trans (below_size m_6) hn_))), Or.elim hk_ (fun hs_ => hs_.2.1) (fun hn_ => (Kd.freshB (bA_ BK403.out) k_ hn_)), Or.elim hk_ (fun hs_ => hs_.2.2.1) (fun hn_ => (Kd.freshB (bA_ BK404.out) k_ hn_)), Or.elim hk_ (fun hs_ => hs_.2.2.2) (fun hn_ => (Kd.freshB (bA_ BK405.out) k_ hn_))⟩)) (below_size m_6))
   replace BK404 := bB_ BK404 hb
   replace BK405 := bB_ BK405 hb
   replace HB := Aside0.mk (below_step m_6 hb)
   (try clear hb); (try clear hb2); (try clear hk); (try clear hi); (try clear ho0)
   obtain ⟨Ao74, co74, eo74⟩ := Kd.V_slice HO433.out
   (first | subst eo74 | (injection eo74 with f1_ f2_ f3_; have f4_ := f1_.symm; have f5_ := f3_.symm; clear f1_ f2_ f3_; subst f4_; subst f5_))
   refine nx_ ⟨(blk_cell BK404.out 0).trans rfl, (blk_cell BK404.out 1).trans rfl⟩ (fun hHeld => ?_)
   refine one_ (i := 6) (N := none) #[true, true, true, true, true, true, true] rfl rfl m_13 (by decide) (fun K hK => ?_)
   have hs73 : w72.cell? ⟨gb405, 0, none⟩ = some (.bool false) := (blk_cell BK405.out 0).trans rfl
   have hfs73 := blk_frozen BK405.out 0
   have hs75 : w72.cell? ⟨gb405, 1, none⟩ = some (.slice none 0 0) := (blk_cell BK405.out 1).trans rfl
   have hfs75 := blk_frozen BK405.out 1
   refine skip_ (w1 := ?_) (by rfl) rfl ?_ ?_
   rotate_left
   ·go_simp
    rfl
   refine hK.out _ _ ⟨((cell_far (p := ⟨gb405, _, none⟩) NB404_405.out _).trans (((cell_far (p := ⟨gb405, _, none⟩) NB404_405.out _).trans (hHeld.1)))), ((cell_far (p := ⟨gb405, _, none⟩) NB404_405.out _).trans (((cell_far (p := ⟨gb405, _, none⟩) NB404_405.out _).trans (hHeld.2))))⟩ (fun hHeld => ?_)
   clear hK K
   refine done_ m_13 ?_
   try go_wp2
   refine bodyPost_ret (results_cell_row rfl _ _ gb405 64 #[.bool t430, .slice Ao74 t431.length co74] (0, 0) _ rfl (by (with_reducible repeat (first | refine blk_drewN ?_ _ | refine blk_drew ?_ | refine blk_alloc ?_ _)); refine blk_put (cs := #[.bool t430, .slice none 0 0]) ?_ 1 _ rfl; (with_reducible repeat (first | refine blk_drewN ?_ _ | refine blk_drew ?_ | refine blk_alloc ?_ _)); refine blk_put (cs := #[.bool false, .slice none 0 0]) ?_ 0 _ rfl; (with_reducible repeat (first | refine blk_drewN ?_ _ | refine blk_drew ?_ | refine blk_alloc ?_ _)); exact BK405.out) Try.underlying64 rfl m_13) rfl ?_
   exact ⟨_, m_5, (by (with_reducible repeat (first | apply Kd.V_alloc | apply Kd.V_drewN | apply Kd.V_drew)); exact Kd.V_mono (Kd.V_far (p := ⟨gb405, 1, none⟩) (Kd.V_far (p := ⟨gb405, 0, none⟩) (Kd.V_mono HO433.out (fun k_ hk => (⟨hk, hk.2.2.2⟩ : _ ∧ k_ ≠ gb405))) (fun _ hk => hk.2) (.bool t430)) (fun _ hk => hk.2) (.slice Ao74 t431.length co74)) (fun _ hk => hk.1.1)), m_6⟩
end Go.Proofs.Ytelklgdmhnkenaa.U
namespace Go.Proofs.Ytelklgdmhnkenaa.U
attribute [local go_sem] max2_int min2_int max_two min_two max_three min_three max_four min_four
def whole_Sub.f (k : Nat) (a0_0 : Bool) (l0_1 : List Int) (a1_0 : Bool) (l1_1 : List Int) : Option (Bool × List Int) := (whole_Add.f k a0_0 l0_1 (!a1_0) l1_1).bind fun bt437 => (some (bt437.1, bt437.2))
set_option maxHeartbeats 8000000 in
set_option maxRecDepth 100000 in
theorem whole_Sub.calls (k : Nat) (a0_0 : Bool) (P0_1_ : Nat → Prop) (A0_1 : Option Addr) (c0_1 : Nat) (l0_1 : List Int) (a1_0 : Bool) (P1_1_ : Nat → Prop) (A1_1 : Option Addr) (c1_1 : Nat) (l1_1 : List Int) (r1 : Bool) (r2 : List Int) (w : World) (hs0_1 : Kd.V (Kd.int .u32) 117 w w.heap.size (fun k_ => P0_1_ k_) (.slice A0_1 l0_1.length c0_1) l0_1) (hs1_1 : Kd.V (Kd.int .u32) 117 w w.heap.size (fun k_ => P1_1_ k_) (.slice A1_1 l1_1.length c1_1) l1_1) (h : whole_Sub.f k a0_0 l0_1 a1_0 l1_1 = some (r1, r2)) :
  Calls Try.prog 101 #[.agg #[.bool a0_0, .slice A0_1 l0_1.length c0_1], .agg #[.bool a1_0, .slice A1_1 l1_1.length c1_1]] w fun e w' => ∃ v1_ : Value, e = .returned (.agg #[.bool r1, v1_]) ∧ Kd.V (Kd.int .u32) 117 w' w.heap.size (fun k_ => ((P0_1_ k_ ∨ P1_1_ k_) ∨ w.heap.size ≤ k_)) v1_ r2 ∧ Below w.heap.size w w' := by
 have HO0_1 := Aside0.mk (show Kd.V (Kd.int .u32) 117 w w.heap.size (fun k_ => ((P0_1_ k_ ∨ P1_1_ k_) ∨ w.heap.size ≤ k_)) (.slice A0_1 l0_1.length c0_1) l0_1 from Kd.V_mono hs0_1 (fun k_ hk => .inl (.inl hk)))
 have HO1_1 := Aside0.mk (show Kd.V (Kd.int .u32) 117 w w.heap.size (fun k_ => ((P0_1_ k_ ∨ P1_1_ k_) ∨ w.heap.size ≤ k_)) (.slice A1_1 l1_1.length c1_1) l1_1 from Kd.V_mono hs1_1 (fun k_ hk => .inl (.inr hk)))
 have HB := Aside0.mk (Below.refl w.heap.size w)
 have H : ((whole_Add.f k a0_0 l0_1 (!a1_0) l1_1).bind fun bt437 => (some (bt437.1, bt437.2))) = some (r1, r2) := h
 clear h
 replace H := Option.bind_eq_some_iff.mp H
 obtain ⟨⟨t437, t438⟩, A30, H⟩ := H
 replace H : (some (t437, t438)) = some (r1, r2) := H
 have A3 := Aside0.mk A30
 clear A30
 simp only [Option.some.injEq, Prod.mk.injEq] at H
 obtain ⟨rfl, rfl⟩ := H
 go_enter Try.func101, Try.ntmps101
 go_wp2_with (first | ((with_reducible refine gate_dst (N := 2) rfl ?_); refine box_event ?hg (N := 2) ?hd (cs := #[.bool a0_0, .slice A0_1 l0_1.length c0_1]) (t := 64) ?hr ?_; (case hd => rfl); (case hg => rfl); (case hr => exact hr_); intro gb434 hg w4 hbox hb; have BK434 := Aside0.mk (hbox); replace HO0_1 := vE_ HO0_1 hg hb; replace HO1_1 := vE_ HO1_1 hg hb; replace HB := Aside0.mk (below_step m_1 hb); clear hb hbox hg) | ((with_reducible refine gate_dst (N := 3) rfl ?_); refine box_event ?hg (N := 3) ?hd (cs := #[.bool a1_0, .slice A1_1 l1_1.length c1_1]) (t := 64) ?hr ?_; (case hd => rfl); (case hg => rfl); (case hr => exact hr_); intro gb435 hg w5 hbox hb; have BK435 := Aside0.mk (hbox); replace HO0_1 := vE_ HO0_1 hg hb; replace HO1_1 := vE_ HO1_1 hg hb; replace BK434 := bB_ BK434 hb; replace HB := Aside0.mk (below_step m_106 hb); clear hb hbox hg) | ((with_reducible refine gate_dst (N := 4) rfl ?_); refine box_event ?hg (N := 4) ?hd (cs := #[.bool false, .slice none 0 0]) (t := 64) ?hr ?_; (case hd => rfl); (case hg => rfl); (case hr => exact hr_); intro gb436 hg w6 hbox hb; have BK436 := Aside0.mk (hbox); have GE436 := gW_ (w := w) hg m_86; replace HO0_1 := vE_ HO0_1 hg hb; replace HO1_1 := vE_ HO1_1 hg hb; replace BK434 := bB_ BK434 hb; replace BK435 := bB_ BK435 hb; replace HB := Aside0.mk (below_step m_86 hb); clear hb hbox hg; obtain ⟨hcz9_0, hcz9_1, hfz9_0, hfz9_1⟩ := cf2_ BK434; obtain ⟨hcz11_0, hcz11_1, hfz11_0, hfz11_1⟩ := cf2_ BK435) | ((with_reducible refine gate_callee (f := 99) rfl ?_); refine goesL_ (some 12) rfl rfl Try.func99 m_13 rfl #[.agg #[.bool a0_0, .slice A0_1 l0_1.length c0_1], .agg #[.bool (!a1_0), .slice A1_1 l1_1.length c1_1]] rfl m_2 ?_; (with_reducible refine (whole_Add.calls k a0_0 (fun k_ => (((((P0_1_ k_ ∨ P1_1_ k_) ∨ w.heap.size ≤ k_) ∧ k_ ≠ gb434) ∧ k_ ≠ gb435) ∧ k_ ≠ gb436)) _ _ l0_1 (!a1_0) (fun k_ => (((((P0_1_ k_ ∨ P1_1_ k_) ∨ w.heap.size ≤ k_) ∧ k_ ≠ gb434) ∧ k_ ≠ gb435) ∧ k_ ≠ gb436)) _ _ l1_1 t437 t438 _ ?side1 ?side2 A3.out).mono ?_); (case side1 => exact HO0_1.out); (case side2 => exact HO1_1.out); rintro e w12 ⟨v439, rfl, ho0, hb⟩; refine ⟨_, rfl, ?_⟩; have HO440 := Aside0.mk (Kd.V_lower (Kd.V_mono (ok' := fun k_ => ((P0_1_ k_ ∨ P1_1_ k_) ∨ w.heap.size ≤ k_) ∧ k_ ≠ gb434 ∧ k_ ≠ gb435 ∧ k_ ≠ gb436) ho0 (fun k_ hk_ => ⟨Or.elim hk_ (fun hs_ => Or.elim hs_ (fun hs_ => hs_.1.1.1) (fun hs_ => hs_.1.1.1)) (fun hn_ => (.inr (Nat.le_trans (below_size m_64) hn_))), Or.elim hk_ (fun hs_ => Or.elim hs_ (fun hs_ => hs_.1.1.2) (fun hs_ => hs_.1.1.2)) (fun hn_ => (Kd.freshB (bA_ BK434.out) k_ hn_)), Or.elim hk_ (fun hs_ => Or.elim hs_ (fun hs_ => hs_.1.2) (fun hs_ => hs_.1.2)) (fun hn_ => (Kd.freshB (bA_ BK435.out) k_ hn_)), Or.elim hk_ (fun hs_ => Or.elim hs_ (fun hs_ => hs_.2) (fun hs_ => hs_.2)) (fun hn_ => (Kd.freshB (bA_ BK436.out) k_ hn_))⟩)) (below_size m_64)); replace BK436 := bB_ BK436 hb; replace HB := Aside0.mk (below_step m_64 hb); clear hb; (try clear ho0); obtain ⟨hcz13_0, hcz13_1, hfz13_0, hfz13_1⟩ := cf2_ BK436; obtain ⟨Ao14, co14, eo14⟩ := Kd.V_slice HO440.out; subst eo14))
 refine bodyPost_ret (results_cell_row rfl _ _ gb436 64 #[.bool t437, .slice Ao14 t438.length co14] (0, 0) _ rfl (by (with_reducible repeat (first | refine blk_drewN ?_ _ | refine blk_drew ?_ | refine blk_alloc ?_ _)); refine blk_put (cs := #[.bool t437, .slice none 0 0]) ?_ 1 _ rfl; (with_reducible repeat (first | refine blk_drewN ?_ _ | refine blk_drew ?_ | refine blk_alloc ?_ _)); refine blk_put (cs := #[.bool false, .slice none 0 0]) ?_ 0 _ rfl; (with_reducible repeat (first | refine blk_drewN ?_ _ | refine blk_drew ?_ | refine blk_alloc ?_ _)); exact BK436.out) Try.underlying64 rfl m_13) rfl ?_
 exact ⟨_, m_5, (by (with_reducible repeat (first | apply Kd.V_alloc | apply Kd.V_drewN | apply Kd.V_drew)); exact Kd.V_mono (Kd.V_far (p := ⟨gb436, 1, none⟩) (Kd.V_far (p := ⟨gb436, 0, none⟩) (Kd.V_mono HO440.out (fun k_ hk => (⟨hk, hk.2.2.2⟩ : _ ∧ k_ ≠ gb436))) (fun _ hk => hk.2) (.bool t437)) (fun _ hk => hk.2) (.slice Ao14 t438.length co14)) (fun _ hk => hk.1.1)), m_64⟩
end Go.Proofs.Ytelklgdmhnkenaa.U
namespace Go.Proofs.Ytelklgdmhnkenaa.U
attribute [local go_sem] max2_int min2_int max_two min_two max_three min_three max_four min_four
def whole_Cmp.f (k : Nat) (a0_0 : Bool) (l0_1 : List Int) (a1_0 : Bool) (l1_1 : List Int) : Option (Int) := (whole_Sub.f k a0_0 l0_1 a1_0 l1_1).bind fun bt443 => ((whole_Sign.f k bt443.1 bt443.2).bind fun t447 => (some t447))
set_option maxHeartbeats 8000000 in
set_option maxRecDepth 100000 in
theorem whole_Cmp.calls (k : Nat) (a0_0 : Bool) (A0_1 : Option Addr) (c0_1 : Nat) (l0_1 : List Int) (a1_0 : Bool) (A1_1 : Option Addr) (c1_1 : Nat) (l1_1 : List Int) (r : Int) (w : World) (hr0_1 : Kd.C (Kd.int .u32) w A0_1 l0_1.length l0_1) (hc0_1 : l0_1.length ≤ c0_1) (hr1_1 : Kd.C (Kd.int .u32) w A1_1 l1_1.length l1_1) (hc1_1 : l1_1.length ≤ c1_1) (h : whole_Cmp.f k a0_0 l0_1 a1_0 l1_1 = some r) :
  Calls Try.prog 83 #[.agg #[.bool a0_0, .slice A0_1 l0_1.length c0_1], .agg #[.bool a1_0, .slice A1_1 l1_1.length c1_1]] w fun e w' => e = .returned (.int .i64 r) ∧ Below w.heap.size w w' := by
 have HR0_1 := Aside0.mk hr0_1
 have HC0_1 := Aside0.mk hc0_1
 clear hr0_1 hc0_1
 have HR1_1 := Aside0.mk hr1_1
 have HC1_1 := Aside0.mk hc1_1
 clear hr1_1 hc1_1
 have HB := Aside0.mk (Below.refl w.heap.size w)
 have H : ((whole_Sub.f k a0_0 l0_1 a1_0 l1_1).bind fun bt443 => ((whole_Sign.f k bt443.1 bt443.2).bind fun t447 => (some t447))) = some r := h
 clear h
 replace H := Option.bind_eq_some_iff.mp H
 obtain ⟨⟨t443, t444⟩, A30, H⟩ := H
 replace H : ((whole_Sign.f k t443 t444).bind fun t447 => (some t447)) = some r := H
 have A3 := Aside0.mk A30
 clear A30
 replace H := Option.bind_eq_some_iff.mp H
 obtain ⟨t447, A40, H⟩ := H
 replace H : (some t447) = some r := H
 have A4 := Aside0.mk A40
 clear A40
 obtain rfl := Option.some.inj H
 go_enter Try.func83, Try.ntmps83
 go_wp2_with (first | ((with_reducible refine gate_dst (N := 2) rfl ?_); refine box_event ?hg (N := 2) ?hd (cs := #[.bool a0_0, .slice A0_1 l0_1.length c0_1]) (t := 64) ?hr ?_; (case hd => rfl); (case hg => rfl); (case hr => exact hr_); intro gb441 hg w5 hbox hb; have BK441 := Aside0.mk (hbox); have GW441 := gW_ (w := w) hg m_1; replace HB := Aside0.mk (below_step m_1 hb); clear hb hbox hg) | ((with_reducible refine gate_dst (N := 3) rfl ?_); refine box_event ?hg (N := 3) ?hd (cs := #[.bool a1_0, .slice A1_1 l1_1.length c1_1]) (t := 64) ?hr ?_; (case hd => rfl); (case hg => rfl); (case hr => exact hr_); intro gb442 hg w6 hbox hb; have BK442 := Aside0.mk (hbox); have GW442 := gW_ (w := w) hg m_105; replace BK441 := bB_ BK441 hb; replace HB := Aside0.mk (below_step m_105 hb); clear hb hbox hg; obtain ⟨hcz8_0, hcz8_1, hfz8_0, hfz8_1⟩ := cf2_ BK441; obtain ⟨hcz9_0, hcz9_1, hfz9_0, hfz9_1⟩ := cf2_ BK442) | ((with_reducible refine gate_callee (f := 101) rfl ?_); refine goesL_ (some 7) rfl rfl Try.func101 m_13 rfl #[.agg #[.bool a0_0, .slice A0_1 l0_1.length c0_1], .agg #[.bool a1_0, .slice A1_1 l1_1.length c1_1]] rfl m_2 ?_; (with_reducible refine (whole_Sub.calls k a0_0 (fun k_ => k_ < w.heap.size) _ _ l0_1 a1_0 (fun k_ => k_ < w.heap.size) _ _ l1_1 t443 t444 _ ?side1 ?side2 A3.out).mono ?_); (case side1 => exact Kd.V_mk HC0_1.out (Kd.F_below (Kd.C_F (Kd.heap_int .u32) HR0_1.out) m_50)); (case side2 => exact Kd.V_mk HC1_1.out (Kd.F_below (Kd.C_F (Kd.heap_int .u32) HR1_1.out) m_50)); rintro e w10 ⟨v445, rfl, ho0, hb⟩; refine ⟨_, rfl, ?_⟩; have HO446 := Aside0.mk (Kd.V_lower (Kd.V_mono (ok' := fun k_ => k_ ≠ gb441 ∧ k_ ≠ gb442) ho0 (fun k_ hk_ => ⟨Or.elim hk_ (fun hs_ => Or.elim hs_ (fun hs_ => fun e_ => Nat.not_le.2 hs_ (by rw [e_]; exact GW441.out)) (fun hs_ => fun e_ => Nat.not_le.2 hs_ (by rw [e_]; exact GW441.out))) (fun hn_ => (Kd.freshB (bA_ BK441.out) k_ hn_)), Or.elim hk_ (fun hs_ => Or.elim hs_ (fun hs_ => fun e_ => Nat.not_le.2 hs_ (by rw [e_]; exact GW442.out)) (fun hs_ => fun e_ => Nat.not_le.2 hs_ (by rw [e_]; exact GW442.out))) (fun hn_ => (Kd.freshB (bA_ BK442.out) k_ hn_))⟩)) (below_size m_50)); replace HB := Aside0.mk (below_step m_50 hb); clear hb; (try clear ho0); obtain ⟨Ao11, co11, eo11⟩ := Kd.V_slice HO446.out; subst eo11) | ((with_reducible refine gate_callee (f := 96) rfl ?_); refine goesL_ (some 8) rfl rfl Try.func96 m_13 rfl #[.agg #[.bool t443, .slice Ao11 t444.length co11]] rfl m_2 ?_; (with_reducible refine (whole_Sign.calls k t443 _ _ t444 t447 _ ?side1 ?side2 A4.out).mono ?_); (case side1 => exact cA_ (Kd.V_reads' HO446.out).2.2); (case side2 => exact (Kd.V_reads' HO446.out).2.1); rintro e w12 ⟨rfl, hb⟩; refine ⟨_, rfl, ?_⟩; replace HB := Aside0.mk (below_step m_50 hb); clear hb))
 go_ret
 exact ⟨m_5, m_50⟩
end Go.Proofs.Ytelklgdmhnkenaa.U
namespace Go.Proofs.Ytelklgdmhnkenaa.U
attribute [local go_sem] max2_int min2_int max_two min_two max_three min_three max_four min_four
mutual
def whole_mul.l0 : Nat → List Int → List Int → List Int → Int → Int → Option (List Int)
 | 0, _, _, _, _, _ => none
 | k + 1, x1, x5, x17, x18, x19 => if x19 < x18 then (if 0 ≤ x19 then (if x19 < (x17.length : Int) then (whole_mul.l1 k x1 x5 x19 (rd x17 x19) 0 x17 x18 x19 x1 (x1.length : Int) 0) else (none)) else (none)) else (some x5)
def whole_mul.l1 : Nat → List Int → List Int → Int → Int → Int → List Int → Int → Int → List Int → Int → Int → Option (List Int)
 | 0, _, _, _, _, _, _, _, _, _, _, _ => none
 | k + 1, x1, x5, x6, x7, x8, x17, x18, x19, x24, x25, x26 => if x26 < x25 then (if 0 ≤ x26 then (if x26 < (x24.length : Int) then (if 0 ≤ (wrap64 (x6 + x26)) then (if (wrap64 (x6 + x26)) < (x5.length : Int) then (whole_mul.l1 k x1 (x5.set ((wrap64 (x6 + x26)) : Int).toNat ((IntKind.u64.wrap (x8 + (IntKind.u64.wrap ((IntKind.u64.wrap ((IntKind.u64.wrap (x7)) * (IntKind.u64.wrap (rd x24 x26)))) + (IntKind.u64.wrap (rd x5 (wrap64 (x6 + x26)))))))) % 4294967296)) x6 x7 ((IntKind.u64.wrap (x8 + (IntKind.u64.wrap ((IntKind.u64.wrap ((IntKind.u64.wrap (x7)) * (IntKind.u64.wrap (rd x24 x26)))) + (IntKind.u64.wrap (rd x5 (wrap64 (x6 + x26)))))))) / 4294967296) x17 x18 x19 x24 x25 (wrap64 (x26 + 1))) else (none)) else (none)) else (none)) else (none)) else (if 0 ≤ (wrap64 (x6 + (x1.length : Int))) then (if (wrap64 (x6 + (x1.length : Int))) < (x5.length : Int) then (whole_mul.l0 k x1 (x5.set ((wrap64 (x6 + (x1.length : Int))) : Int).toNat ((x8) % 4294967296)) x17 x18 (wrap64 (x19 + 1))) else (none)) else (none))
end
def whole_mul.f (k : Nat) (l0 : List Int) (l1 : List Int) : Option (List Int) := if 0 ≤ (wrap64 ((l0.length : Int) + (l1.length : Int))) then (if (wrap64 ((l0.length : Int) + (l1.length : Int)) : Int).toNat ≤ 70368744177664 then (whole_mul.l0 k l1 (List.replicate (wrap64 ((l0.length : Int) + (l1.length : Int)) : Int).toNat 0) l0 (l0.length : Int) 0) else (none)) else (none)
set_option maxHeartbeats 8000000 in
set_option maxRecDepth 100000 in
theorem whole_mul.calls (k : Nat) (A0 : Option Addr) (c0 : Nat) (l0 : List Int) (A1 : Option Addr) (c1 : Nat) (l1 : List Int) (r : List Int) (w : World) (hr0 : Kd.C (Kd.int .u32) w A0 l0.length l0) (hc0 : l0.length ≤ c0) (hr1 : Kd.C (Kd.int .u32) w A1 l1.length l1) (hc1 : l1.length ≤ c1) (h : whole_mul.f k l0 l1 = some r) :
  Calls Try.prog 106 #[.slice A0 l0.length c0, .slice A1 l1.length c1] w fun e w' => ∃ v0_ : Value, e = .returned (v0_) ∧ Kd.R (Kd.int .u32) 117 w' w.heap.size (fun _ => True) v0_ r ∧ Below w.heap.size w w' := by
 have HR0 := Aside0.mk hr0
 clear hr0 hc0
 have HR1 := Aside0.mk hr1
 clear hr1 hc1
 have HB := Aside0.mk (Below.refl w.heap.size w)
 have H : (if 0 ≤ (wrap64 ((l0.length : Int) + (l1.length : Int))) then (if (wrap64 ((l0.length : Int) + (l1.length : Int)) : Int).toNat ≤ 70368744177664 then (whole_mul.l0 k l1 (List.replicate (wrap64 ((l0.length : Int) + (l1.length : Int)) : Int).toNat 0) l0 (l0.length : Int) 0) else (none)) else (none)) = some r := h
 clear h
 obtain ⟨ji3, hji3⟩ : ∃ j_ : Int, (wrap64 ((l0.length : Int) + (l1.length : Int))) = j_ := ⟨_, rfl⟩
 replace H : (if 0 ≤ (ji3) then (if (ji3 : Int).toNat ≤ 70368744177664 then (whole_mul.l0 k l1 (List.replicate (ji3 : Int).toNat 0) l0 (l0.length : Int) 0) else (none)) else (none)) = some r := by first | (rw [hji3] at H; exact H) | (simp only [hji3] at H ⊢; exact H)
 have hji3w : (IntKind.i64.wrap ((l0.length : Int) + (l1.length : Int))) = ji3 := (i64_w _).trans hji3
 by_cases c4 : 0 ≤ (ji3)
 ·rw [if_pos c4] at H
  have c4b1 : decide (0 ≤ (ji3)) = true := decide_eq_true c4
  clear c4
  by_cases c5 : (ji3 : Int).toNat ≤ 70368744177664
  ·rw [if_pos c5] at H
   have c5b1 : decide ((ji3 : Int).toNat ≤ 70368744177664) = true := decide_eq_true c5
   clear c5
   obtain ⟨y448, hy448⟩ : ∃ y_ : List Int, y_ = (List.replicate (ji3 : Int).toNat 0) := ⟨_, rfl⟩
   replace H : (whole_mul.l0 k l1 y448 l0 (l0.length : Int) 0) = some r := by first | (rw [hy448]; with_reducible exact H) | (have H2_ := (Option.bind_some _ _).symm.trans H; rw [hy448]; with_reducible exact H2_) | (have H2_ := (Option.bind_some _ _).symm.trans H; with_reducible exact H2_) | with_reducible exact H | (rw [hy448]; exact H) | exact H
   have Ny448 := Aside0.mk hy448
   clear hy448
   have H' := Aside0.mk H
   clear H
   go_enter Try.func106, Try.ntmps106
   go_wp2_with (first | ((with_reducible refine gate_dst (N := 16) rfl ?_); refine Kd.R_make (Kd.int .u32) _ 117 rfl (N := 16) rfl 62 _ _ rfl ji3 rfl rfl Try.underlying62 (.int .u32 0) 4 info117 rfl (by decide) (by omega) 0 (ok := fun _ => True) (okp := fun _ => True) rfl (fun _ hk => hk) trivial (of_decide_eq_true m_4) (Nat.le_trans (Nat.mul_le_mul_right _ (of_decide_eq_true m_4 : ji3.toNat ≤ 70368744177664)) (by omega)) (Below.refl _ _) (Nat.le_refl _) ?_; intro v449 w6 ho7 hb hg_ hnew_; clear hg_ hnew_; (first | rw [← Ny448.out] at ho7 | (simp only [Int.reduceToNat] at ho7; rw [← Ny448.out] at ho7)); have HO450 := Aside0.mk (Kd.R_lower ho7 (below_size m_1)); replace HB := Aside0.mk (below_step m_1 hb); clear hb ho7))
   go_loopg [19] k (fun kq v19 w' => ∃ (x5_1 : List Int) (x19_1 : Int), v19 = .int .i64 x19_1 ∧ Aside0 (whole_mul.l0 kq l1 x5_1 l0 (l0.length : Int) x19_1 = some r) ∧ Aside0 (kq ≤ k) ∧ Aside0 (Kd.R (Kd.int .u32) 117 w' w.heap.size (fun _ => True) v449 x5_1) ∧ Aside0 (Below w.heap.size w w'))
   case atStart => exact ⟨(y448), (0), m_9, H', ⟨Nat.le_refl _⟩, ⟨(by (with_reducible repeat (first | apply Kd.R_alloc | apply Kd.R_drewN | apply Kd.R_drew)); exact HO450.out)⟩, ⟨m_1⟩⟩
   case round =>
    clear H'
    (try clear c1); (try clear p2); (try clear c4); (try skip); (try clear c4b1); (try clear c5); (try skip); (try clear c5b1); (try clear p6)
    obtain ⟨x5_1, x19_1, rfl, HA, HK1, HO_5, HB⟩ := hrel
    cases gk with
    | zero => exact absurd HA.out (by simp [whole_mul.l0])
    | succ k1 =>
     have H := HA.out
     clear HA
     simp only [whole_mul.l0] at H
     by_cases c8 : x19_1 < (l0.length : Int)
     ·rw [if_pos c8] at H
      clear c8
      by_cases c9 : 0 ≤ x19_1
      ·rw [if_pos c9] at H
       have c9b0 : decide (0 ≤ x19_1) = true := decide_eq_true c9
       clear c9
       by_cases c10 : x19_1 < (l0.length : Int)
       ·rw [if_pos c10] at H
        have c10b0 : decide (x19_1 < (l0.length : Int)) = true := decide_eq_true c10
        clear c10
        have H' := Aside0.mk H
        clear H
        have p451 : 0 ≤ (x19_1 : Int) := of_decide_eq_true m_4
        have q451 : x19_1 < (l0.length : Int) := of_decide_eq_true m_4
        obtain ⟨ad451, e451, hx451_0⟩ := Kd.at_int HR0.out x19_1 p451 q451
        cases e451
        replace hx451_0 := mv_ HB hx451_0
        replace p451 := eq_true p451
        replace q451 := eq_true q451
        go_wp2
        go_loopg [8, 26] k1 (fun kq v8 v26 w' => ∃ (x5_2 : List Int) (x8_2 : Int) (x26_2 : Int), v8 = .int .u64 x8_2 ∧ v26 = .int .i64 x26_2 ∧ Aside0 (whole_mul.l1 kq l1 x5_2 x19_1 (rd l0 x19_1) x8_2 l0 (l0.length : Int) x19_1 l1 (l1.length : Int) x26_2 = some r) ∧ Aside0 (kq ≤ k1) ∧ Aside0 (Kd.R (Kd.int .u32) 117 w' w.heap.size (fun _ => True) v449 x5_2) ∧ Aside0 (Below w.heap.size w w'))
        case atStart => exact ⟨(x5_1), (0), (0), m_9, m_9, H', ⟨Nat.le_refl _⟩, ⟨m_113⟩, ⟨m_1⟩⟩
        case round =>
         clear H'
         (try clear c1); (try clear p2); (try clear c4); (try skip); (try clear c4b1); (try clear p4); (try clear q4); (try clear hx4); (try clear c5); (try skip); (try clear c5b1); (try clear p6); (try clear c8); (try clear c8b0); (try clear c9); (try clear c9b0); (try clear c10); (try clear c10b0); (try clear hx451_0); (try clear p2); (try clear p451); (try clear p6); (try clear q451)
         obtain ⟨x5_2, x8_2, x26_2, rfl, rfl, HA, HK2, HO_5, HB⟩ := hrel
         cases gk with
         | zero => exact absurd HA.out (by simp [whole_mul.l1])
         | succ k2 =>
          have H := HA.out
          clear HA
          simp only [whole_mul.l1] at H
          by_cases c11 : x26_2 < (l1.length : Int)
          ·rw [if_pos c11] at H
           clear c11
           by_cases c12 : 0 ≤ x26_2
           ·rw [if_pos c12] at H
            have c12b0 : decide (0 ≤ x26_2) = true := decide_eq_true c12
            clear c12
            by_cases c13 : x26_2 < (l1.length : Int)
            ·rw [if_pos c13] at H
             have c13b0 : decide (x26_2 < (l1.length : Int)) = true := decide_eq_true c13
             clear c13
             obtain ⟨ji14, hji14⟩ : ∃ j_ : Int, (wrap64 (x19_1 + x26_2)) = j_ := ⟨_, rfl⟩
             replace H : (if 0 ≤ (ji14) then (if (ji14) < (x5_2.length : Int) then (whole_mul.l1 k2 l1 (x5_2.set ((ji14) : Int).toNat ((IntKind.u64.wrap (x8_2 + (IntKind.u64.wrap ((IntKind.u64.wrap ((IntKind.u64.wrap ((rd l0 x19_1))) * (IntKind.u64.wrap (rd l1 x26_2)))) + (IntKind.u64.wrap (rd x5_2 (ji14))))))) % 4294967296)) x19_1 (rd l0 x19_1) ((IntKind.u64.wrap (x8_2 + (IntKind.u64.wrap ((IntKind.u64.wrap ((IntKind.u64.wrap ((rd l0 x19_1))) * (IntKind.u64.wrap (rd l1 x26_2)))) + (IntKind.u64.wrap (rd x5_2 (ji14))))))) / 4294967296) l0 (l0.length : Int) x19_1 l1 (l1.length : Int) (wrap64 (x26_2 + 1))) else (none)) else (none)) = some r := by first | (rw [hji14] at H; exact H) | (simp only [hji14] at H ⊢; exact H)
             have hji14w : (IntKind.i64.wrap (x19_1 + x26_2)) = ji14 := (i64_w _).trans hji14
             by_cases c15 : 0 ≤ (ji14)
             ·rw [if_pos c15] at H
              have c15b0 : decide (0 ≤ (ji14)) = true := decide_eq_true c15
              clear c15
              by_cases c16 : (ji14) < (x5_2.length : Int)
              ·rw [if_pos c16] at H
               have c16b0 : decide ((ji14) < (x5_2.length : Int)) = true := decide_eq_true c16
               clear c16
               obtain ⟨y454, hy454⟩ : ∃ y_ : List Int, y_ = (x5_2.set ((ji14) : Int).toNat ((IntKind.u64.wrap (x8_2 + (IntKind.u64.wrap ((IntKind.u64.wrap ((IntKind.u64.wrap ((rd l0 x19_1))) * (IntKind.u64.wrap (rd l1 x26_2)))) + (IntKind.u64.wrap (rd x5_2 (ji14))))))) % 4294967296)) := ⟨_, rfl⟩
               replace H : (whole_mul.l1 k2 l1 y454 x19_1 (rd l0 x19_1) ((IntKind.u64.wrap (x8_2 + (IntKind.u64.wrap ((IntKind.u64.wrap ((IntKind.u64.wrap ((rd l0 x19_1))) * (IntKind.u64.wrap (rd l1 x26_2)))) + (IntKind.u64.wrap (rd x5_2 (ji14))))))) / 4294967296) l0 (l0.length : Int) x19_1 l1 (l1.length : Int) (wrap64 (x26_2 + 1))) = some r := by first | (rw [hy454]; with_reducible exact H) | (have H2_ := (Option.bind_some _ _).symm.trans H; rw [hy454]; with_reducible exact H2_) | (have H2_ := (Option.bind_some _ _).symm.trans H; with_reducible exact H2_) | with_reducible exact H | (rw [hy454]; exact H) | exact H
               have Ny454 := Aside0.mk hy454
               clear hy454
               have H' := Aside0.mk H
               clear H
               have p452 : 0 ≤ (x26_2 : Int) := of_decide_eq_true m_4
               have q452 : x26_2 < (l1.length : Int) := of_decide_eq_true m_4
               obtain ⟨ad452, e452, hx452_0⟩ := Kd.at_int HR1.out x26_2 p452 q452
               cases e452
               replace hx452_0 := mv_ HB hx452_0
               replace p452 := eq_true p452
               replace q452 := eq_true q452
               obtain ⟨Ao18, co18, eo18⟩ := Kd.R_slice HO_5.out
               subst eo18
               have p453 : 0 ≤ ((ji14) : Int) := of_decide_eq_true m_4
               have q453 : (ji14) < (x5_2.length : Int) := of_decide_eq_true m_4
               obtain ⟨ad453, e453, hx453_0⟩ := Kd.at_int (Kd.R_reads' HO_5.out).2.2 (ji14) p453 q453
               cases e453
               replace p453 := eq_true p453
               replace q453 := eq_true q453
               have p17 : 0 ≤ ((ji14) : Int) := of_decide_eq_true m_4
               have q17 : ((ji14) : Int) < ((x5_2.length : Int) : Int) := of_decide_eq_true m_4
               obtain ⟨go17, co17, eo17, gb17, gl17, cl17, HG17⟩ := Kd.R_form HO_5.out (by omega)
               (first | cases eo17 | (injection eo17 with ea_ en_ ec_; (first | subst ea_ | (injection ea_ with ea_; subst ea_)); subst ec_; clear en_))
               have GB17 := Aside0.mk gb17
               clear gb17 gl17 HG17
               (first | simp only [add_plain] at hx453_0 | skip)
               obtain ⟨hx17_0, hf17_0⟩ := Kd.R_celln 0 HO_5.out ((ji14) : Int) p17 q17
               have HP19 := Kd.R_putg HO_5.out ((ji14) : Int) ((IntKind.u64.wrap (x8_2 + (IntKind.u64.wrap ((IntKind.u64.wrap ((IntKind.u64.wrap ((rd l0 x19_1))) * (IntKind.u64.wrap (rd l1 x26_2)))) + (IntKind.u64.wrap (rd x5_2 (ji14))))))) % 4294967296)
               go_wp2_with (first | ((with_reducible refine gate_store (t := 117) (p := 54) rfl ?_); refine store_event (t := 117) (p := 54) (v := ?vo_w20) (w1 := (wr.setCell ⟨go17, ((ji14) : Int).toNat, none⟩ (.int .u32 ((IntKind.u64.wrap (x8_2 + (IntKind.u64.wrap ((IntKind.u64.wrap ((IntKind.u64.wrap ((rd l0 x19_1))) * (IntKind.u64.wrap (rd l1 x26_2)))) + (IntKind.u64.wrap (rd x5_2 (ji14))))))) % 4294967296)))) ?hg ?ho ?hn ?hr ?_; (case ho => rfl); (case hg => rfl); (case hn => rfl); (case hr => exact hr_); intro w20 hw; have hg : wr.grownBy w20 (some go17) := (by rw [hw]; exact HP19.2); have hp_ : Kd.R (Kd.int .u32) 117 w20 w.heap.size (fun _ => True) (.slice (some ⟨go17, 0, none⟩) x5_2.length co18) y454 := (by rw [hw, Ny454.out]; exact HP19.1); clear HP19; replace HO_5 := Aside0.mk (hp_); replace HB := Aside0.mk (((by rw [hw]; exact below_set (HB.out) GB17.out) : Below w.heap.size w w20)); clear hg hw hp_))
               go_roundg k2
               case measure => have := HK1.out; have := HK2.out; omega
               case rel => exact ⟨(y454), ((IntKind.u64.wrap (x8_2 + (IntKind.u64.wrap ((IntKind.u64.wrap ((IntKind.u64.wrap ((rd l0 x19_1))) * (IntKind.u64.wrap (rd l1 x26_2)))) + (IntKind.u64.wrap (rd x5_2 (ji14))))))) / 4294967296), (wrap64 (x26_2 + 1)), (by first | rfl | (simp; done) | (simp only [← hji14] <;> (first | rfl | simp)) | (simp [*]; done)), m_9, H', ⟨(by have := HK1.out; have := HK2.out; omega)⟩, ⟨m_113⟩, ⟨m_1⟩⟩
              ·rw [if_neg c16] at H
               exact absurd H (by simp)
             ·rw [if_neg c15] at H
              exact absurd H (by simp)
            ·rw [if_neg c13] at H
             exact absurd H (by simp)
           ·rw [if_neg c12] at H
            exact absurd H (by simp)
          ·rw [if_neg c11] at H
           have c11b0 : decide (x26_2 < (l1.length : Int)) = false := decide_eq_false c11
           clear c11
           obtain ⟨ji21, hji21⟩ : ∃ j_ : Int, (wrap64 (x19_1 + (l1.length : Int))) = j_ := ⟨_, rfl⟩
           replace H : (if 0 ≤ (ji21) then (if (ji21) < (x5_2.length : Int) then (whole_mul.l0 k2 l1 (x5_2.set ((ji21) : Int).toNat ((x8_2) % 4294967296)) l0 (l0.length : Int) (wrap64 (x19_1 + 1))) else (none)) else (none)) = some r := by first | (rw [hji21] at H; exact H) | (simp only [hji21] at H ⊢; exact H)
           have hji21w : (IntKind.i64.wrap (x19_1 + (l1.length : Int))) = ji21 := (i64_w _).trans hji21
           by_cases c22 : 0 ≤ (ji21)
           ·rw [if_pos c22] at H
            have c22b0 : decide (0 ≤ (ji21)) = true := decide_eq_true c22
            clear c22
            by_cases c23 : (ji21) < (x5_2.length : Int)
            ·rw [if_pos c23] at H
             have c23b0 : decide ((ji21) < (x5_2.length : Int)) = true := decide_eq_true c23
             clear c23
             obtain ⟨y455, hy455⟩ : ∃ y_ : List Int, y_ = (x5_2.set ((ji21) : Int).toNat ((x8_2) % 4294967296)) := ⟨_, rfl⟩
             replace H : (whole_mul.l0 k2 l1 y455 l0 (l0.length : Int) (wrap64 (x19_1 + 1))) = some r := by first | (rw [hy455]; with_reducible exact H) | (have H2_ := (Option.bind_some _ _).symm.trans H; rw [hy455]; with_reducible exact H2_) | (have H2_ := (Option.bind_some _ _).symm.trans H; with_reducible exact H2_) | with_reducible exact H | (rw [hy455]; exact H) | exact H
             have Ny455 := Aside0.mk hy455
             clear hy455
             have H' := Aside0.mk H
             clear H
             have p24 : 0 ≤ ((ji21) : Int) := of_decide_eq_true m_4
             have q24 : ((ji21) : Int) < ((x5_2.length : Int) : Int) := of_decide_eq_true m_4
             obtain ⟨go24, co24, eo24, gb24, gl24, cl24, HG24⟩ := Kd.R_form HO_5.out (by omega)
             (first | cases eo24 | (injection eo24 with ea_ en_ ec_; (first | subst ea_ | (injection ea_ with ea_; subst ea_)); subst ec_; clear en_))
             have GB24 := Aside0.mk gb24
             clear gb24 gl24 HG24
             obtain ⟨hx24_0, hf24_0⟩ := Kd.R_celln 0 HO_5.out ((ji21) : Int) p24 q24
             replace p24 := eq_true p24
             replace q24 := eq_true q24
             have HP25 := Kd.R_putg HO_5.out ((ji21) : Int) ((x8_2) % 4294967296)
             go_wp2_with (first | ((with_reducible refine gate_store (t := 117) (p := 63) rfl ?_); refine store_event (t := 117) (p := 63) (v := ?vo_w26) (w1 := (wr.setCell ⟨go24, ((ji21) : Int).toNat, none⟩ (.int .u32 ((x8_2) % 4294967296)))) ?hg ?ho ?hn ?hr ?_; (case ho => rfl); (case hg => rfl); (case hn => rfl); (case hr => exact hr_); intro w26 hw; have hg : wr.grownBy w26 (some go24) := (by rw [hw]; exact HP25.2); have hp_ : Kd.R (Kd.int .u32) 117 w26 w.heap.size (fun _ => True) (.slice (some ⟨go24, 0, none⟩) x5_2.length co24) y455 := (by rw [hw, Ny455.out]; exact HP25.1); clear HP25; replace HO_5 := Aside0.mk (hp_); replace HB := Aside0.mk (((by rw [hw]; exact below_set (HB.out) GB24.out) : Below w.heap.size w w26)); clear hg hw hp_))
             go_roundg k2
             case measure => have := HK1.out; have := HK2.out; omega
             case rel => exact ⟨(y455), (wrap64 (x19_1 + 1)), m_9, H', ⟨(by have := HK1.out; have := HK2.out; omega)⟩, ⟨m_113⟩, ⟨m_1⟩⟩
            ·rw [if_neg c23] at H
             exact absurd H (by simp)
           ·rw [if_neg c22] at H
            exact absurd H (by simp)
       ·rw [if_neg c10] at H
        exact absurd H (by simp)
      ·rw [if_neg c9] at H
       exact absurd H (by simp)
     ·rw [if_neg c8] at H
      have c8b0 : decide (x19_1 < (l0.length : Int)) = false := decide_eq_false c8
      clear c8
      obtain rfl := Option.some.inj H
      go_wp2
      go_ret
      exact ⟨_, m_130, m_113, m_1⟩
  ·rw [if_neg c5] at H
   exact absurd H (by simp)
 ·rw [if_neg c4] at H
  exact absurd H (by simp)
end Go.Proofs.Ytelklgdmhnkenaa.U
namespace Go.Proofs.Ytelklgdmhnkenaa.U
attribute [local go_sem] max2_int min2_int max_two min_two max_three min_three max_four min_four
def whole_Mul.f (k : Nat) (a0_0 : Bool) (l0_1 : List Int) (a1_0 : Bool) (l1_1 : List Int) : Option (Bool × List Int) := (whole_trim.f k l0_1).bind fun t459 => ((whole_trim.f k l1_1).bind fun t462 => ((whole_mul.f k t459 t462).bind fun t465 => ((whole_made.f k (a0_0 != a1_0) t465).bind fun bt468 => (some (bt468.1, bt468.2)))))
def whole_Mul.T1 : Bool × List (List Nat × List Nat) := (true, [([], []), ([0], [0]), ([], []), ([2], [2]), ([1, 3], [1, 3]), ([], []), ([5], [5]), ([6], [6]), ([], []), ([8], [8]), ([9, 7], [9]), ([7, 10, 10], [7, 10]), ([4, 11, 11], [4, 11]), ([12, 12, 0, 1, 2, 3, 4, 5, 6, 7, 8, 9, 10, 11, 12], [12])])
def whole_Mul.B1 : List Nat := [0, 1, 0, 4, 15, 0, 32, 96, 0, 256, 992, 2016, 4095, 8191]
theorem whole_Mul.tab1 : rtab .any (opsOf Try.f84 1) = whole_Mul.T1 := by kernel_rfl
theorem whole_Mul.bits1 : waitsOk whole_Mul.T1.2 whole_Mul.B1 = true := by kernel_rfl
set_option maxHeartbeats 8000000 in
set_option maxRecDepth 100000 in
theorem whole_Mul.calls (k : Nat) (a0_0 : Bool) (P0_1_ : Nat → Prop) (A0_1 : Option Addr) (c0_1 : Nat) (l0_1 : List Int) (a1_0 : Bool) (P1_1_ : Nat → Prop) (A1_1 : Option Addr) (c1_1 : Nat) (l1_1 : List Int) (r1 : Bool) (r2 : List Int) (w : World) (hs0_1 : Kd.V (Kd.int .u32) 117 w w.heap.size (fun k_ => P0_1_ k_) (.slice A0_1 l0_1.length c0_1) l0_1) (hs1_1 : Kd.V (Kd.int .u32) 117 w w.heap.size (fun k_ => P1_1_ k_) (.slice A1_1 l1_1.length c1_1) l1_1) (h : whole_Mul.f k a0_0 l0_1 a1_0 l1_1 = some (r1, r2)) :
  Calls Try.prog 84 #[.agg #[.bool a0_0, .slice A0_1 l0_1.length c0_1], .agg #[.bool a1_0, .slice A1_1 l1_1.length c1_1]] w fun e w' => ∃ v1_ : Value, e = .returned (.agg #[.bool r1, v1_]) ∧ Kd.V (Kd.int .u32) 117 w' w.heap.size (fun k_ => ((P0_1_ k_ ∨ P1_1_ k_) ∨ w.heap.size ≤ k_)) v1_ r2 ∧ Below w.heap.size w w' := by
 have HO0_1 := Aside0.mk (show Kd.V (Kd.int .u32) 117 w w.heap.size (fun k_ => ((P0_1_ k_ ∨ P1_1_ k_) ∨ w.heap.size ≤ k_)) (.slice A0_1 l0_1.length c0_1) l0_1 from Kd.V_mono hs0_1 (fun k_ hk => .inl (.inl hk)))
 have HO1_1 := Aside0.mk (show Kd.V (Kd.int .u32) 117 w w.heap.size (fun k_ => ((P0_1_ k_ ∨ P1_1_ k_) ∨ w.heap.size ≤ k_)) (.slice A1_1 l1_1.length c1_1) l1_1 from Kd.V_mono hs1_1 (fun k_ hk => .inl (.inr hk)))
 have HB := Aside0.mk (Below.refl w.heap.size w)
 have H : ((whole_trim.f k l0_1).bind fun t459 => ((whole_trim.f k l1_1).bind fun t462 => ((whole_mul.f k t459 t462).bind fun t465 => ((whole_made.f k (a0_0 != a1_0) t465).bind fun bt468 => (some (bt468.1, bt468.2)))))) = some (r1, r2) := h
 clear h
 replace H := Option.bind_eq_some_iff.mp H
 obtain ⟨t459, A30, H⟩ := H
 replace H : ((whole_trim.f k l1_1).bind fun t462 => ((whole_mul.f k t459 t462).bind fun t465 => ((whole_made.f k (a0_0 != a1_0) t465).bind fun bt468 => (some (bt468.1, bt468.2))))) = some (r1, r2) := H
 have A3 := Aside0.mk A30
 clear A30
 replace H := Option.bind_eq_some_iff.mp H
 obtain ⟨t462, A40, H⟩ := H
 replace H : ((whole_mul.f k t459 t462).bind fun t465 => ((whole_made.f k (a0_0 != a1_0) t465).bind fun bt468 => (some (bt468.1, bt468.2)))) = some (r1, r2) := H
 have A4 := Aside0.mk A40
 clear A40
 replace H := Option.bind_eq_some_iff.mp H
 obtain ⟨t465, A50, H⟩ := H
 replace H : ((whole_made.f k (a0_0 != a1_0) t465).bind fun bt468 => (some (bt468.1, bt468.2))) = some (r1, r2) := H
 have A5 := Aside0.mk A50
 clear A50
 replace H := Option.bind_eq_some_iff.mp H
 obtain ⟨⟨t468, t469⟩, A60, H⟩ := H
 replace H : (some (t468, t469)) = some (r1, r2) := H
 have A6 := Aside0.mk A60
 clear A60
 simp only [Option.some.injEq, Prod.mk.injEq] at H
 obtain ⟨rfl, rfl⟩ := H
 go_enter Try.func84, Try.ntmps84
 try go_wp2_with (first | ((with_reducible refine gate_dst (N := 2) rfl ?_); refine box_event ?hg (N := 2) ?hd (cs := #[.bool a0_0, .slice A0_1 l0_1.length c0_1]) (t := 64) ?hr ?_; (case hd => rfl); (case hg => rfl); (case hr => exact hr_); intro gb456 hg w7 hbox hb; have BK456 := Aside0.mk (hbox); replace HO0_1 := vE_ HO0_1 hg hb; replace HO1_1 := vE_ HO1_1 hg hb; replace HB := Aside0.mk (below_step m_1 hb); clear hb hbox hg) | ((with_reducible refine gate_dst (N := 3) rfl ?_); refine box_event ?hg (N := 3) ?hd (cs := #[.bool a1_0, .slice A1_1 l1_1.length c1_1]) (t := 64) ?hr ?_; (case hd => rfl); (case hg => rfl); (case hr => exact hr_); intro gb457 hg w8 hbox hb; have BK457 := Aside0.mk (hbox); replace HO0_1 := vE_ HO0_1 hg hb; replace HO1_1 := vE_ HO1_1 hg hb; replace BK456 := bB_ BK456 hb; replace HB := Aside0.mk (below_step m_104 hb); clear hb hbox hg) | ((with_reducible refine gate_dst (N := 4) rfl ?_); refine box_event ?hg (N := 4) ?hd (cs := #[.bool false, .slice none 0 0]) (t := 64) ?hr ?_; (case hd => rfl); (case hg => rfl); (case hr => exact hr_); intro gb458 hg w9 hbox hb; have BK458 := Aside0.mk (hbox); have GE458 := gW_ (w := w) hg m_85; have NB456_458 := nl_ BK456 hg; have NB457_458 := nl_ BK457 hg; replace HO0_1 := vE_ HO0_1 hg hb; replace HO1_1 := vE_ HO1_1 hg hb; replace BK456 := bB_ BK456 hb; replace BK457 := bB_ BK457 hb; replace HB := Aside0.mk (below_step m_85 hb); clear hb hbox hg))
 replace HO0_1 := vD_ HO0_1
 replace HO1_1 := vD_ HO1_1
 replace BK456 := bD_ BK456
 replace BK457 := bD_ BK457
 replace BK458 := bD_ BK458
 replace HB := Aside0.mk (below_drew1 HB.out)
 refine start_ (n := 14) (S := fun w' => w'.cell? ⟨gb456, 0, none⟩ = some (.bool a0_0) ∧ w'.cell? ⟨gb456, 1, none⟩ = some (.slice A0_1 l0_1.length c0_1) ∧ w'.cell? ⟨gb457, 0, none⟩ = some (.bool a1_0) ∧ w'.cell? ⟨gb457, 1, none⟩ = some (.slice A1_1 l1_1.length c1_1)) (ds := []) #[false, false, false, false, false, false, false, false, false, false, false, false, false, false] m_13 rfl rfl ⟨(blk_cell BK456.out 0).trans rfl, (blk_cell BK456.out 1).trans rfl, (blk_cell BK457.out 0).trans rfl, (blk_cell BK457.out 1).trans rfl⟩ (fun hHeld => ?_); refine with_tabW whole_Mul.tab1 whole_Mul.bits1 (fun HT_ HW_ => ?_)
 generalize w9.drew = w10 at HO0_1 HO1_1 BK456 BK457 BK458 HB hHeld ⊢
 refine pA_ 0 HT_.out ?_
 refine pA_ 2 HT_.out ?_
 refine pA_ 5 HT_.out ?_
 refine pA_ 8 HT_.out ?_
 refine tA_ 1 HT_.out HW_.out hHeld ?_
 refine tA_ 3 HT_.out HW_.out hHeld ?_
 refine pA_ 4 HT_.out ?_
 refine tA_ 6 HT_.out HW_.out hHeld ?_
 refine tA_ 9 HT_.out HW_.out hHeld ?_
 refine cB_1 7 Try.func88 (args := #[.slice A0_1 l0_1.length c0_1]) ?_
 with_reducible refine (whole_trim.calls k (fun k_ => (((((P0_1_ k_ ∨ P1_1_ k_) ∨ w.heap.size ≤ k_) ∧ k_ ≠ gb456) ∧ k_ ≠ gb457) ∧ k_ ≠ gb458)) _ _ l0_1 t459 _ ?side1 A3.out).mono ?_
 (case side1 => exact HO0_1.out)
 rintro e w11 ⟨v460, rfl, ho0, hb⟩
 refine ⟨_, rfl, ?_⟩
 have HO461 := Aside0.mk (Kd.V_lower (Kd.V_mono (ok' := fun k_ => ((P0_1_ k_ ∨ P1_1_ k_) ∨ w.heap.size ≤ k_) ∧ k_ ≠ gb456 ∧ k_ ≠ gb457 ∧ k_ ≠ gb458) ho0 (fun k_ hk_ => ⟨Or.elim hk_ (fun hs_ => hs_.1.1.1) (fun hn_ => (.inr (Nat.le_trans (below_size m_20) hn_))), Or.elim hk_ (fun hs_ => hs_.1.1.2) (fun hn_ => (Kd.freshB (bA_ BK456.out) k_ hn_)), Or.elim hk_ (fun hs_ => hs_.1.2) (fun hn_ => (Kd.freshB (bA_ BK457.out) k_ hn_)), Or.elim hk_ (fun hs_ => hs_.2) (fun hn_ => (Kd.freshB (bA_ BK458.out) k_ hn_))⟩)) (below_size m_20))
 replace HO0_1 := vB_ HO0_1 hb
 replace HO1_1 := vB_ HO1_1 hb
 replace BK456 := bB_ BK456 hb
 replace BK457 := bB_ BK457 hb
 replace BK458 := bB_ BK458 hb
 replace HB := Aside0.mk (below_step m_20 hb)
 (try clear hb); (try clear hb2); (try clear hk); (try clear hi); (try clear ho0)
 refine nx_ ⟨(blk_cell BK456.out 0).trans rfl, (blk_cell BK456.out 1).trans rfl, (blk_cell BK457.out 0).trans rfl, (blk_cell BK457.out 1).trans rfl⟩ (fun hHeld => ?_)
 refine cB_1 10 Try.func88 (args := #[.slice A1_1 l1_1.length c1_1]) ?_
 with_reducible refine (whole_trim.calls k (fun k_ => (((((P0_1_ k_ ∨ P1_1_ k_) ∨ w.heap.size ≤ k_) ∧ k_ ≠ gb456) ∧ k_ ≠ gb457) ∧ k_ ≠ gb458)) _ _ l1_1 t462 _ ?side1 A4.out).mono ?_
 (case side1 => exact HO1_1.out)
 rintro e w12 ⟨v463, rfl, ho0, hb⟩
 refine ⟨_, rfl, ?_⟩
 have HO464 := Aside0.mk (Kd.V_lower (Kd.V_mono (ok' := fun k_ => ((P0_1_ k_ ∨ P1_1_ k_) ∨ w.heap.size ≤ k_) ∧ k_ ≠ gb456 ∧ k_ ≠ gb457 ∧ k_ ≠ gb458) ho0 (fun k_ hk_ => ⟨Or.elim hk_ (fun hs_ => hs_.1.1.1) (fun hn_ => (.inr (Nat.le_trans (below_size m_20) hn_))), Or.elim hk_ (fun hs_ => hs_.1.1.2) (fun hn_ => (Kd.freshB (bA_ BK456.out) k_ hn_)), Or.elim hk_ (fun hs_ => hs_.1.2) (fun hn_ => (Kd.freshB (bA_ BK457.out) k_ hn_)), Or.elim hk_ (fun hs_ => hs_.2) (fun hn_ => (Kd.freshB (bA_ BK458.out) k_ hn_))⟩)) (below_size m_20))
 replace HO0_1 := vB_ HO0_1 hb
 replace HO1_1 := vB_ HO1_1 hb
 replace HO461 := vB_ HO461 hb
 replace BK456 := bB_ BK456 hb
 replace BK457 := bB_ BK457 hb
 replace BK458 := bB_ BK458 hb
 replace HB := Aside0.mk (below_step m_20 hb)
 (try clear hb); (try clear hb2); (try clear hk); (try clear hi); (try clear ho0)
 obtain ⟨Ao13, co13, eo13⟩ := Kd.V_slice HO461.out
 (first | subst eo13 | (injection eo13 with f1_ f2_ f3_; have f4_ := f1_.symm; have f5_ := f3_.symm; clear f1_ f2_ f3_; subst f4_; subst f5_))
 obtain ⟨Ao14, co14, eo14⟩ := Kd.V_slice HO464.out
 (first | subst eo14 | (injection eo14 with f1_ f2_ f3_; have f4_ := f1_.symm; have f5_ := f3_.symm; clear f1_ f2_ f3_; subst f4_; subst f5_))
 refine nx_ ⟨(blk_cell BK456.out 0).trans rfl, (blk_cell BK456.out 1).trans rfl, (blk_cell BK457.out 0).trans rfl, (blk_cell BK457.out 1).trans rfl⟩ (fun hHeld => ?_)
 refine cB_1 11 Try.func106 (args := #[.slice Ao13 t459.length co13, .slice Ao14 t462.length co14]) ?_
 with_reducible refine (whole_mul.calls k _ _ t459 _ _ t462 t465 _ ?side1 ?side2 ?side3 ?side4 A5.out).mono ?_
 (case side1 => exact cA_ (Kd.V_reads' HO461.out).2.2)
 (case side2 => exact (Kd.V_reads' HO461.out).2.1)
 (case side3 => exact cA_ (Kd.V_reads' HO464.out).2.2)
 (case side4 => exact (Kd.V_reads' HO464.out).2.1)
 rintro e w15 ⟨v466, rfl, ho0, hb⟩
 refine ⟨_, rfl, ?_⟩
 have HO467 := Aside0.mk (Kd.R_lower (Kd.R_newM (M := fun k_ => (w.heap.size ≤ k_)) ho0 (below_size m_20) (fun k_ h_ => h_)) (below_size m_20))
 replace HO0_1 := Aside0.mk (Kd.V_elder' (vA_ HO0_1.out) (Kd.R_base ho0) hb)
 replace HO1_1 := Aside0.mk (Kd.V_elder' (vA_ HO1_1.out) (Kd.R_base ho0) hb)
 replace HO461 := Aside0.mk (Kd.V_elder' (vA_ HO461.out) (Kd.R_base ho0) hb)
 replace HO464 := Aside0.mk (Kd.V_elder' (vA_ HO464.out) (Kd.R_base ho0) hb)
 replace BK456 := bB_ BK456 hb
 replace BK457 := bB_ BK457 hb
 replace BK458 := bB_ BK458 hb
 replace HB := Aside0.mk (below_step m_20 hb)
 (try clear hb); (try clear hb2); (try clear hk); (try clear hi); (try clear ho0)
 obtain ⟨Ao16, co16, eo16⟩ := Kd.R_slice HO467.out
 (first | subst eo16 | (injection eo16 with f1_ f2_ f3_; have f4_ := f1_.symm; have f5_ := f3_.symm; clear f1_ f2_ f3_; subst f4_; subst f5_))
 refine nx_ ⟨(blk_cell BK456.out 0).trans rfl, (blk_cell BK456.out 1).trans rfl, (blk_cell BK457.out 0).trans rfl, (blk_cell BK457.out 1).trans rfl⟩ (fun hHeld => ?_)
 refine cB_1 12 Try.func81 (args := #[.bool (a0_0 != a1_0), .slice Ao16 t465.length co16]) ?_
 with_reducible refine (whole_made.calls k (a0_0 != a1_0) (fun k_ => some k_ = (.slice Ao16 t465.length co16 : Value).ownBlock) _ _ t465 t468 t469 _ ?side1 A6.out).mono ?_
 (case side1 => exact Kd.R_V (Kd.R_tight rfl (Kd.R_types (Kd.R_types (Kd.R_types (HO467.out) BK456.out (by decide)) BK457.out (by decide)) BK458.out (by decide))))
 rintro e w17 ⟨v470, rfl, ho0, hb⟩
 refine ⟨_, rfl, ?_⟩
 have HO471 := Aside0.mk (Kd.V_lower (Kd.V_mono (ok' := fun k_ => ((P0_1_ k_ ∨ P1_1_ k_) ∨ w.heap.size ≤ k_) ∧ k_ ≠ gb456 ∧ k_ ≠ gb457 ∧ k_ ≠ gb458) ho0 (fun k_ hk_ => ⟨Or.elim hk_ (fun hs_ => (.inr (((Kd.R_types (Kd.R_types (Kd.R_types (HO467.out) BK456.out (by decide)) BK457.out (by decide)) BK458.out (by decide)).1 k_ hs_.symm).1.1.1.1))) (fun hn_ => (.inr (Nat.le_trans (below_size m_20) hn_))), Or.elim hk_ (fun hs_ => ((Kd.R_types (Kd.R_types (Kd.R_types (HO467.out) BK456.out (by decide)) BK457.out (by decide)) BK458.out (by decide)).1 k_ hs_.symm).1.1.2) (fun hn_ => (Kd.freshB (bA_ BK456.out) k_ hn_)), Or.elim hk_ (fun hs_ => ((Kd.R_types (Kd.R_types (Kd.R_types (HO467.out) BK456.out (by decide)) BK457.out (by decide)) BK458.out (by decide)).1 k_ hs_.symm).1.2) (fun hn_ => (Kd.freshB (bA_ BK457.out) k_ hn_)), Or.elim hk_ (fun hs_ => ((Kd.R_types (Kd.R_types (Kd.R_types (HO467.out) BK456.out (by decide)) BK457.out (by decide)) BK458.out (by decide)).1 k_ hs_.symm).2) (fun hn_ => (Kd.freshB (bA_ BK458.out) k_ hn_))⟩)) (below_size m_20))
 replace BK456 := bB_ BK456 hb
 replace BK457 := bB_ BK457 hb
 replace BK458 := bB_ BK458 hb
 replace HB := Aside0.mk (below_step m_20 hb)
 (try clear hb); (try clear hb2); (try clear hk); (try clear hi); (try clear ho0)
 obtain ⟨Ao19, co19, eo19⟩ := Kd.V_slice HO471.out
 (first | subst eo19 | (injection eo19 with f1_ f2_ f3_; have f4_ := f1_.symm; have f5_ := f3_.symm; clear f1_ f2_ f3_; subst f4_; subst f5_))
 refine nx_ ⟨(blk_cell BK456.out 0).trans rfl, (blk_cell BK456.out 1).trans rfl, (blk_cell BK457.out 0).trans rfl, (blk_cell BK457.out 1).trans rfl⟩ (fun hHeld => ?_)
 refine one_ (i := 13) (N := none) #[true, true, true, true, true, true, true, true, true, true, true, true, true, true] rfl rfl (one_of HT_.out m_13) (by decide) (fun K hK => ?_)
 have hs18 : w17.cell? ⟨gb458, 0, none⟩ = some (.bool false) := (blk_cell BK458.out 0).trans rfl
 have hfs18 := blk_frozen BK458.out 0
 have hs20 : w17.cell? ⟨gb458, 1, none⟩ = some (.slice none 0 0) := (blk_cell BK458.out 1).trans rfl
 have hfs20 := blk_frozen BK458.out 1
 refine skip_ (w1 := ?_) (by rfl) rfl ?_ ?_
 rotate_left
 ·go_simp
  rfl
 refine hK.out _ _ ⟨((cell_far (p := ⟨gb458, _, none⟩) NB456_458.out _).trans (((cell_far (p := ⟨gb458, _, none⟩) NB456_458.out _).trans (hHeld.1)))), ((cell_far (p := ⟨gb458, _, none⟩) NB456_458.out _).trans (((cell_far (p := ⟨gb458, _, none⟩) NB456_458.out _).trans (hHeld.2.1)))), ((cell_far (p := ⟨gb458, _, none⟩) NB457_458.out _).trans (((cell_far (p := ⟨gb458, _, none⟩) NB457_458.out _).trans (hHeld.2.2.1)))), ((cell_far (p := ⟨gb458, _, none⟩) NB457_458.out _).trans (((cell_far (p := ⟨gb458, _, none⟩) NB457_458.out _).trans (hHeld.2.2.2))))⟩ (fun hHeld => ?_)
 clear hK K
 refine done_ (done_of HT_.out m_13) ?_
 try go_wp2
 refine bodyPost_ret (results_cell_row rfl _ _ gb458 64 #[.bool t468, .slice Ao19 t469.length co19] (0, 0) _ rfl (by (with_reducible repeat (first | refine blk_drewN ?_ _ | refine blk_drew ?_ | refine blk_alloc ?_ _)); refine blk_put (cs := #[.bool t468, .slice none 0 0]) ?_ 1 _ rfl; (with_reducible repeat (first | refine blk_drewN ?_ _ | refine blk_drew ?_ | refine blk_alloc ?_ _)); refine blk_put (cs := #[.bool false, .slice none 0 0]) ?_ 0 _ rfl; (with_reducible repeat (first | refine blk_drewN ?_ _ | refine blk_drew ?_ | refine blk_alloc ?_ _)); exact BK458.out) Try.underlying64 rfl m_13) rfl ?_
 exact ⟨_, m_5, (by (with_reducible repeat (first | apply Kd.V_alloc | apply Kd.V_drewN | apply Kd.V_drew)); exact Kd.V_mono (Kd.V_far (p := ⟨gb458, 1, none⟩) (Kd.V_far (p := ⟨gb458, 0, none⟩) (Kd.V_mono HO471.out (fun k_ hk => (⟨hk, hk.2.2.2⟩ : _ ∧ k_ ≠ gb458))) (fun _ hk => hk.2) (.bool t468)) (fun _ hk => hk.2) (.slice Ao19 t469.length co19)) (fun _ hk => hk.1.1)), m_20⟩
end Go.Proofs.Ytelklgdmhnkenaa.U
