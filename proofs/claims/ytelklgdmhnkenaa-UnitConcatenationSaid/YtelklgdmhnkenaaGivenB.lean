/- unit.Schedules: that the call answers the schedules. -/
import Derived.Test.YtelklgdmhnkenaaGivenF
import Derived.Test.YtelklgdmhnkenaaPlainA
namespace Go.Proofs.Ytelklgdmhnkenaa.U
open Go.RowKit Go.Proofs.YtelklgdmhnkenaaW.PrintWords Go.Proofs.YtelklgdmhnkenaaW.PrintLast Go.Proofs.YtelklgdmhnkenaaW.PrintMore
set_option linter.unusedVariables false
set_option linter.unusedSimpArgs false

def initF (b m : Int) (l : List S99) (up dn st id sp on : Int) : Int := if checkF b m l up dn st id sp on 6 = 0 then mx (wrap64 (-dn)) (mn up on) else 0
theorem may_f (b m : Int) (l : List S99) (up dn st id sp on : Int) : Evs (fun k => unit_may.f k b m l up dn st id sp on) (checkF b m l up dn st id sp on 6 == 0) := by
  unfold unit_may.f
  exact Evs.bind (check_f b m l up dn st id sp on 6) (Evs.const rfl)
theorem init_f (b m : Int) (l : List S99) (up dn st id sp on : Int) : Evs (fun k => unit_Initial.f k b m l up dn st id sp on) (initF b m l up dn st id sp on) := by
  unfold unit_Initial.f initF
  refine Evs.bind (may_f b m l up dn st id sp on) ?_
  by_cases h : checkF b m l up dn st id sp on 6 = 0
  · simp only [h, unit_held.f]
    exact Evs.const rfl
  · simp only [beq_eq_false_iff_ne.2 h, if_neg h]
    exact Evs.const rfl
theorem goesF_ {P : Program} {ops : Array Oper} {Q : Exit → Act → World → Prop} {oi : Oper} {N : Option Tmp} {a : Act} {w : World} {K : Act → World → Prop} {f : FuncId} {fn : Func} {ars : Array Operand} {ts : Array TypeId} {x : Operand} {lb : Array Value} (hf : P.funcs[f]? = some fn) (hname : (fn.name == "runtime.NumGoroutine") = false) (hb : fn.body.isSome = true) (args : Array Value)
    (hw : Region.wanted oi (yielded ops a.tmps) = true) (hN : oi.dst = N) (hop : oi.op = .call { callee := .value x, args := ars, argTypes := ts }) (hx : a.eval x = .func (.func f) #[] lb) (hargs : ars.map a.eval = args)
    (h : Calls P f (args ++ lb) w fun e w' => ∃ v, e = .returned v ∧ K (a.put N v) w') : if Region.wanted oi (yielded ops a.tmps) = true then Oper.wp P oi a w K Q else K (a.put N undef) w := by
  refine call_ f (args ++ lb) hw hN ?_ h
  have he := enters_ hf hname hb (args ++ lb) w
  unfold execOp
  simp [hop, resolve, Deferred.ofValue, invoke, hx, hargs, he]
def schedF (b m : Int) (l : List S99) (up dn st id sp on hours : Int) : List (List Bool) × Int :=
  if checkF b m l up dn st id sp on 6 = 0 then (if inB hours 0 8 = true then (schedFrom up dn hours.toNat [] (initF b m l up dn st id sp on), 0) else ([], 1)) else ([], checkF b m l up dn st id sp on 6)
theorem made_bools (H : Nat) : madeCells #[Value.bool false] H = (bls (List.replicate H false)).toArray := by
  apply Array.ext
  · simp [madeCells, bls]
  · intro i h1 h2
    simp [madeCells, bls, Nat.mod_one]

set_option maxHeartbeats 8000000 in
set_option maxRecDepth 100000 in
theorem schedules_ok (a0_0 a0_1 : Int) (A0_2 : Option Addr) (c0_2 : Nat) (l0_2 : List S99) (a0_3 a0_4 a0_5 a0_6 a0_7 a0_8 : Int) (H : Nat) (w : World) (hr0_2 : Kd.C k99 w A0_2 l0_2.length l0_2) (hc0_2 : l0_2.length ≤ c0_2)
    (hc : checkF a0_0 a0_1 l0_2 a0_3 a0_4 a0_5 a0_6 a0_7 a0_8 6 = 0) (hH : H ≤ 8) :
    Calls Try.prog 19 #[.agg #[.int .i64 a0_0, .int .i64 a0_1, .slice A0_2 l0_2.length c0_2, .int .i64 a0_3, .int .i64 a0_4, .int .i64 a0_5, .int .i64 a0_6, .int .i64 a0_7, .int .i64 a0_8], .int .i64 H] w fun e w' => ∃ v0_ : Value, e = .returned (.tuple #[v0_, .int .i64 0]) ∧ Kd.S (Kd.slice 4 Kd.bool) 32 w' w.heap.size (fun _ => True) v0_ (schedFrom a0_3 a0_4 H [] (initF a0_0 a0_1 l0_2 a0_3 a0_4 a0_5 a0_6 a0_7 a0_8)) ∧ Below w.heap.size w w' := by
  obtain ⟨kc, hkc⟩ := (check_f a0_0 a0_1 l0_2 a0_3 a0_4 a0_5 a0_6 a0_7 a0_8 6).some
  rw [hc] at hkc
  obtain ⟨ki, hki⟩ := (init_f a0_0 a0_1 l0_2 a0_3 a0_4 a0_5 a0_6 a0_7 a0_8).some
  have HKC := Aside0.mk hkc
  have HKI := Aside0.mk hki
  have HR := Aside0.mk hr0_2
  have HC := Aside0.mk hc0_2
  have HH := Aside0.mk hH
  have hu24 := Try.underlying24
  generalize initF a0_0 a0_1 l0_2 a0_3 a0_4 a0_5 a0_6 a0_7 a0_8 = s0 at *
  obtain ⟨i0, hi0, hii⟩ := Option.map_eq_some_iff.1 info4
  simp only [Prod.mk.injEq] at hii
  have hmk : ∀ W : World, (Instr.makeSlice 32 (.int .i64 0) (.int .i64 (H : Int))).run Try.prog W = .ok (.slice (some ⟨W.heap.size, 0, none⟩) 0 H) (W.alloc (.cells (bls (List.replicate H false)).toArray 4)) := fun W => by
    have h := run_make W 32 4 i0 (.bool false) Try.underlying32 hi0 hii.1 .i64 .i64 0 (H : Int) (by omega) (by omega) (by rw [hii.2.2]; omega) (by omega)
    rw [hii.2.1, Int.toNat_natCast, Nat.mul_one] at h
    rw [← made_bools]
    exact h
  clear hkc hki hr0_2 hc0_2 hH hc hi0 hii
  go_enter Try.func19, Try.ntmps19
  go_wp2_with (first | ((with_reducible refine gate_dst (N := 2) rfl ?_); refine box_event ?hg (N := 2) ?hd (cs := #[.int .i64 a0_0, .int .i64 a0_1, .slice A0_2 l0_2.length c0_2, .int .i64 a0_3, .int .i64 a0_4, .int .i64 a0_5, .int .i64 a0_6, .int .i64 a0_7, .int .i64 a0_8]) (t := 24) ?hr ?_; (case hd => rfl); (case hg => rfl); (case hr => first | (go_simp; done) | (go_simp; rfl)); intro gu hgu w1 hU hb1; have HU := Aside0.mk hU; have HB := Aside0.mk hb1; have HGU := Aside0.mk (Nat.le_of_eq hgu.symm); clear hgu hU hb1) | ((with_reducible refine gate_dst (N := 3) rfl ?_); refine box_event ?hg (N := 3) ?hd (cs := #[.int .i64 H]) (t := 3) ?hr ?_; (case hd => rfl); (case hg => rfl); (case hr => first | (go_simp; done) | (go_simp; rfl)); intro gh hgh w2 hh hb2; have HG2 := Aside0.mk hh; have HU2 := Aside0.mk (blk_below HU.out hb2); have HB2 := Aside0.mk (below_step HB.out hb2); clear hgh hh hb2 HU HB; have u0 := (blk_cell HU2.out 0).trans rfl; have u1 := (blk_cell HU2.out 1).trans rfl; have u2 := (blk_cell HU2.out 2).trans rfl; have u3 := (blk_cell HU2.out 3).trans rfl; have u4 := (blk_cell HU2.out 4).trans rfl; have u5 := (blk_cell HU2.out 5).trans rfl; have u6 := (blk_cell HU2.out 6).trans rfl; have u7 := (blk_cell HU2.out 7).trans rfl; have u8 := (blk_cell HU2.out 8).trans rfl))
  refine (unit_Check.calls kc a0_0 a0_1 A0_2 c0_2 l0_2 a0_3 a0_4 a0_5 a0_6 a0_7 a0_8 6 0 _ (Kd.C_below HR.out HB2.out) HC.out HKC.out).mono ?_
  rintro e w3 ⟨rfl, hb3⟩
  have HU3 := Aside0.mk (blk_below HU2.out hb3)
  have HG3 := Aside0.mk (blk_below HG2.out hb3)
  have HB3 := Aside0.mk (below_step HB2.out hb3)
  clear hb3 HU2 HG2 HB2 u0 u1 u2 u3 u4 u5 u6 u7 u8
  have h3 : w3.cell? ⟨gh, 0, none⟩ = some (.int .i64 H) := (blk_cell HG3.out 0).trans rfl
  go_wp2_with fail
  refine (unit_within_int.calls (H : Int) 0 8 true _ (by rw [within_f]; have := HH.out; simp [inB]; omega)).mono ?_
  rintro e w4 ⟨rfl, hd4⟩
  have hb4 := hd4.below
  have HU4 := Aside0.mk (blk_below HU3.out hb4)
  have HG4 := Aside0.mk (blk_below HG3.out hb4)
  have HB4 := Aside0.mk (below_step HB3.out hb4)
  clear hb4 hd4 HU3 HG3 HB3 h3
  go_wp2_with (first | ((with_reducible refine gate_dst (N := 7) rfl ?_); refine box_event ?hg (N := 7) ?hd (cs := #[.slice none 0 0]) (t := 27) ?hr ?_; (case hd => rfl); (case hg => rfl); (case hr => first | (go_simp; done) | (go_simp; rfl)); intro go hg_ w5 hh_ hb_; have Ggo := Aside0.mk (show w.heap.size ≤ go by rw [hg_]; exact HB4.out.size); have HU5 := Aside0.mk (blk_below HU4.out hb_); have HG5 := Aside0.mk (blk_below HG4.out hb_); have HO5 := Aside0.mk hh_; have HB5 := Aside0.mk (below_step HB4.out hb_); clear hg_ hh_ hb_ HU4 HG4; have h5 : w5.cell? ⟨gh, 0, none⟩ = some (.int .i64 H) := (blk_cell HG5.out 0).trans rfl) | ((with_reducible refine gate_dst (N := 19) rfl ?_); refine Kd.event_run (w1 := w5.alloc (.cells (bls (List.replicate H false)).toArray 4)) (v := .slice (some ⟨w5.heap.size, 0, none⟩) 0 H) ?hg ?hr ?_; (case hg => rfl); (case hr => first | (go_simp; done) | (go_simp; rfl)); obtain ⟨R, hR_⟩ : ∃ R, R = w5.heap.size := ⟨_, rfl⟩; rw [← hR_]; have hM_ : (w5.alloc (.cells (bls (List.replicate H false)).toArray 4)).heap[R]? = some (.cells (bls (List.replicate H false)).toArray 4 (0, 0)) := by rw [hR_]; exact blk_new _ _; have hb_ := below_alloc (Below.refl w5.heap.size w5) (.cells (bls (List.replicate H false)).toArray 4); generalize w5.alloc (.cells (bls (List.replicate H false)).toArray 4) = w6 at *; have GR := Aside0.mk (show w.heap.size ≤ R by rw [hR_]; exact HB5.out.size); have HU6 := Aside0.mk (blk_below HU5.out hb_); have HG6 := Aside0.mk (blk_below HG5.out hb_); have HO6 := Aside0.mk (blk_below HO5.out hb_); have HM6 := Aside0.mk hM_; have HB6 := Aside0.mk (below_step HB5.out hb_); clear hR_ hM_ hb_ HU5 HG5 HO5 HB5 h5) | ((with_reducible refine gate_dst (N := 8) rfl ?_); refine box_event ?hg (N := 8) ?hd (cs := #[.slice none 0 0]) (t := 32) ?hr ?_; (case hd => rfl); (case hg => rfl); (case hr => first | (go_simp; done) | (go_simp; rfl)); intro gr hg_ w7 hh_ hb_; have Ggr := Aside0.mk (show w.heap.size ≤ gr by rw [hg_]; exact HB6.out.size); have HU7 := Aside0.mk (blk_below HU6.out hb_); have HG7 := Aside0.mk (blk_below HG6.out hb_); have HO7 := Aside0.mk (blk_below HO6.out hb_); have HM7 := Aside0.mk (blk_below HM6.out hb_); have HV7 := Aside0.mk hh_; have HB7 := Aside0.mk (below_step HB6.out hb_); clear hg_ hh_ hb_ HU6 HG6 HO6 HM6; have c7 : w7.cell? ⟨gr, 0, none⟩ = some (.slice none 0 0) := (blk_cell HV7.out 0).trans rfl; have f7 := blk_frozen HV7.out 0) | ((with_reducible refine gate_store (t := 32) (p := 8) rfl ?_); refine store_event (t := 32) (p := 8) (v := .tmp 19) (w1 := w7.setCell ⟨gr, 0, none⟩ (.slice (some ⟨R, 0, none⟩) 0 H)) ?hg rfl ?hn ?hr ?_; (case hg => rfl); (case hn => rfl); (case hr => first | (go_simp; done) | (go_simp; rfl)); intro w8 hw_; have HU8 := Aside0.mk (show w8.heap[_]? = _ by rw [hw_]; exact blk_far (p := ⟨gr, 0, none⟩) HU7.out (blk_ne HU7.out HV7.out (by decide)) _); have HG8 := Aside0.mk (show w8.heap[_]? = _ by rw [hw_]; exact blk_far (p := ⟨gr, 0, none⟩) HG7.out (blk_ne HG7.out HV7.out (by decide)) _); have HO8 := Aside0.mk (show w8.heap[_]? = _ by rw [hw_]; exact blk_far (p := ⟨gr, 0, none⟩) HO7.out (blk_ne HO7.out HV7.out (by decide)) _); have HM8 := Aside0.mk (show w8.heap[_]? = _ by rw [hw_]; exact blk_far (p := ⟨gr, 0, none⟩) HM7.out (blk_ne HM7.out HV7.out (by decide)) _); have HV8 := Aside0.mk (show w8.heap[gr]? = some (.cells #[(.slice (some ⟨R, 0, none⟩) 0 H)] 32 (0, 0)) by rw [hw_]; exact blk_put HV7.out 0 _ rfl); have HB8 := Aside0.mk (show Below w.heap.size w w8 by rw [hw_]; exact HB7.out.setCell (p := ⟨gr, 0, none⟩) Ggr.out _); clear hw_ HU7 HG7 HO7 HM7 HV7 HB7 c7 f7) | ((with_reducible refine gate_dst (N := 9) rfl ?_); refine box_event ?hg (N := 9) ?hd (cs := #[.nilFunc]) (t := 74) ?hr ?_; (case hd => rfl); (case hg => rfl); (case hr => first | (go_simp; done) | (go_simp; rfl)); intro gf hg_ w9 hh_ hb_; have Ggf := Aside0.mk (show w.heap.size ≤ gf by rw [hg_]; exact HB8.out.size); have HU9 := Aside0.mk (blk_below HU8.out hb_); have HG9 := Aside0.mk (blk_below HG8.out hb_); have HO9 := Aside0.mk (blk_below HO8.out hb_); have HM9 := Aside0.mk (blk_below HM8.out hb_); have HV9 := Aside0.mk (blk_below HV8.out hb_); have HF9 := Aside0.mk hh_; have HB9 := Aside0.mk (below_step HB8.out hb_); clear hg_ hh_ hb_ HU8 HG8 HO8 HM8 HV8; have c9 : w9.cell? ⟨gf, 0, none⟩ = some .nilFunc := (blk_cell HF9.out 0).trans rfl; have f9 := blk_frozen HF9.out 0) | ((with_reducible refine gate_store (t := 74) (p := 9) rfl ?_); refine store_event (t := 74) (p := 9) (v := .tmp 20) (w1 := w9.setCell ⟨gf, 0, none⟩ (.func (.func 46) #[] #[.pointer (some ⟨gr, 0, none⟩), .pointer (some ⟨gh, 0, none⟩), .pointer (some ⟨go, 0, none⟩), .pointer (some ⟨gu, 0, none⟩), .pointer (some ⟨gf, 0, none⟩)])) ?hg rfl ?hn ?hr ?_; (case hg => rfl); (case hn => rfl); (case hr => first | (go_simp; done) | (go_simp; rfl)); intro w10 hw_; have HU10 := Aside0.mk (show w10.heap[_]? = _ by rw [hw_]; exact blk_far (p := ⟨gf, 0, none⟩) HU9.out (blk_ne HU9.out HF9.out (by decide)) _); have HG10 := Aside0.mk (show w10.heap[_]? = _ by rw [hw_]; exact blk_far (p := ⟨gf, 0, none⟩) HG9.out (blk_ne HG9.out HF9.out (by decide)) _); have HO10 := Aside0.mk (show w10.heap[_]? = _ by rw [hw_]; exact blk_far (p := ⟨gf, 0, none⟩) HO9.out (blk_ne HO9.out HF9.out (by decide)) _); have HM10 := Aside0.mk (show w10.heap[_]? = _ by rw [hw_]; exact blk_far (p := ⟨gf, 0, none⟩) HM9.out (blk_ne HM9.out HF9.out (by decide)) _); have HV10 := Aside0.mk (show w10.heap[_]? = _ by rw [hw_]; exact blk_far (p := ⟨gf, 0, none⟩) HV9.out (blk_ne HV9.out HF9.out (by decide)) _); have HF10 := Aside0.mk (show w10.heap[gf]? = some (.cells #[(.func (.func 46) #[] #[.pointer (some ⟨gr, 0, none⟩), .pointer (some ⟨gh, 0, none⟩), .pointer (some ⟨go, 0, none⟩), .pointer (some ⟨gu, 0, none⟩), .pointer (some ⟨gf, 0, none⟩)])] 74 (0, 0)) by rw [hw_]; exact blk_put HF9.out 0 _ rfl); have HB10 := Aside0.mk (show Below w.heap.size w w10 by rw [hw_]; exact HB9.out.setCell (p := ⟨gf, 0, none⟩) Ggf.out _); clear hw_ HU9 HG9 HO9 HM9 HV9 HF9 HB9 c9 f9))
  obtain ⟨R, hR_⟩ : ∃ R, R = w5.heap.size := ⟨_, rfl⟩
  have GR := Aside0.mk (show w.heap.size ≤ R by rw [hR_]; exact HB5.out.size)
  rw [← hR_]
  obtain ⟨gr, hgr_⟩ : ∃ g, g = R + 1 := ⟨_, rfl⟩
  have Ggr := Aside0.mk (show w.heap.size ≤ gr by have := GR.out; omega)
  obtain ⟨gf, hgf_⟩ : ∃ g, g = R + 1 + 1 := ⟨_, rfl⟩
  rw [← hgf_, ← hgr_]
  obtain ⟨w10, hw_⟩ : ∃ W, W = ((w5.alloc (.cells (bls (List.replicate H false)).toArray 4)).alloc (.cells #[.slice (some ⟨R, 0, none⟩) 0 H] 32)).alloc (.cells #[.func (.func 46) #[] #[.pointer (some ⟨gr, 0, none⟩), .pointer (some ⟨gh, 0, none⟩), .pointer (some ⟨go, 0, none⟩), .pointer (some ⟨gu, 0, none⟩), .pointer (some ⟨gf, 0, none⟩)]] 74) := ⟨_, rfl⟩
  rw [← hw_]
  have hb_ : Below w5.heap.size w5 w10 := by rw [hw_]; exact below_alloc (below_alloc (below_alloc (Below.refl _ _) _) _) _
  have HU10 := Aside0.mk (blk_below HU5.out hb_)
  have HG10 := Aside0.mk (blk_below HG5.out hb_)
  have HO10 := Aside0.mk (blk_below HO5.out hb_)
  have HB10 := Aside0.mk (below_step HB5.out hb_)
  have HM10 := Aside0.mk (show w10.heap[R]? = some (.cells (bls (List.replicate H false)).toArray 4 (0, 0)) by rw [hw_, hR_]; exact blk_alloc (blk_alloc (blk_new _ _) _) _)
  have HV10 := Aside0.mk (show w10.heap[gr]? = some (.cells #[.slice (some ⟨R, 0, none⟩) 0 H] 32 (0, 0)) by rw [hw_, hgr_, hR_, show w5.heap.size + 1 = (w5.alloc (.cells (bls (List.replicate H false)).toArray 4)).heap.size by simp]; exact blk_alloc (blk_new _ _) _)
  have HF10 := Aside0.mk (show w10.heap[gf]? = some (.cells #[.func (.func 46) #[] #[.pointer (some ⟨gr, 0, none⟩), .pointer (some ⟨gh, 0, none⟩), .pointer (some ⟨go, 0, none⟩), .pointer (some ⟨gu, 0, none⟩), .pointer (some ⟨gf, 0, none⟩)]] 74 (0, 0)) by rw [hw_, show gf = ((w5.alloc (.cells (bls (List.replicate H false)).toArray 4)).alloc (.cells #[.slice (some ⟨R, 0, none⟩) 0 H] 32)).heap.size by simp; omega]; exact blk_new _ _)
  clear hb_ hw_ hgf_ hgr_ hR_ HU5 HG5 HO5 HB5 h5
  refine start_ (n := 4) (S := fun w' => w'.cell? ⟨gf, 0, none⟩ = some (.func (.func 46) #[] #[.pointer (some ⟨gr, 0, none⟩), .pointer (some ⟨gh, 0, none⟩), .pointer (some ⟨go, 0, none⟩), .pointer (some ⟨gu, 0, none⟩), .pointer (some ⟨gf, 0, none⟩)]) ∧ w'.cell? ⟨gu, 0, none⟩ = some (.int .i64 a0_0) ∧ w'.cell? ⟨gu, 1, none⟩ = some (.int .i64 a0_1) ∧ w'.cell? ⟨gu, 2, none⟩ = some (.slice A0_2 l0_2.length c0_2) ∧ w'.cell? ⟨gu, 3, none⟩ = some (.int .i64 a0_3) ∧ w'.cell? ⟨gu, 4, none⟩ = some (.int .i64 a0_4) ∧ w'.cell? ⟨gu, 5, none⟩ = some (.int .i64 a0_5) ∧ w'.cell? ⟨gu, 6, none⟩ = some (.int .i64 a0_6) ∧ w'.cell? ⟨gu, 7, none⟩ = some (.int .i64 a0_7) ∧ w'.cell? ⟨gu, 8, none⟩ = some (.int .i64 a0_8)) (ds := [3]) #[false, false, false, false] (by kernel_rfl) rfl rfl ⟨(blk_cell HF10.out 0).trans rfl, (blk_cell HU10.out 0).trans rfl, (blk_cell HU10.out 1).trans rfl, (blk_cell HU10.out 2).trans rfl, (blk_cell HU10.out 3).trans rfl, (blk_cell HU10.out 4).trans rfl, (blk_cell HU10.out 5).trans rfl, (blk_cell HU10.out 6).trans rfl, (blk_cell HU10.out 7).trans rfl, (blk_cell HU10.out 8).trans rfl⟩ (fun hHeld => ?_)
  refine take_ (i := 0) (N := some 21) (v := ?_) (a' := ?_) #[true, false, false, false] rfl rfl (by kernel_rfl) (fun _ _ _ h => h) (Or.inl ⟨by rfl, ?_⟩) hHeld ?_ ?_
  rotate_left
  · rintro w' ⟨s0, s1, s2, s3, s4, s5, s6, s7, s8, s9⟩
    go_simp
    with_reducible rfl
  rotate_left
  · simp only [Act.put, List.setIfInBounds_toArray, List.set_cons_zero, List.set_cons_succ, i64_w, i32_w]
    rfl
  refine take_ (i := 1) (N := some 22) (v := ?_) (a' := ?_) #[true, true, false, false] rfl rfl (by kernel_rfl) (fun _ _ _ h => h) (Or.inl ⟨by rfl, ?_⟩) hHeld ?_ ?_
  rotate_left
  · rintro w' ⟨s0, s1, s2, s3, s4, s5, s6, s7, s8, s9⟩
    go_simp
    with_reducible rfl
  rotate_left
  · simp only [Act.put, List.setIfInBounds_toArray, List.set_cons_zero, List.set_cons_succ, i64_w, i32_w]
    rfl
  refine one_ (i := 2) (N := some 23) #[true, true, true, false] rfl rfl (by kernel_rfl) (by decide) (fun K hK => ?_)
  refine goes_ Try.func23 (by kernel_rfl) rfl #[.agg #[.int .i64 a0_0, .int .i64 a0_1, .slice A0_2 l0_2.length c0_2, .int .i64 a0_3, .int .i64 a0_4, .int .i64 a0_5, .int .i64 a0_6, .int .i64 a0_7, .int .i64 a0_8]] (by rfl) rfl rfl (by simp only [List.map_toArray, List.map_cons, List.map_nil]; rfl) ?_
  with_reducible refine (unit_Initial.calls ki a0_0 a0_1 A0_2 c0_2 l0_2 a0_3 a0_4 a0_5 a0_6 a0_7 a0_8 s0 _ (Kd.C_below HR.out (below_drew HB10.out)) HC.out HKI.out).mono ?_
  rintro e w11 ⟨rfl, hb11⟩
  refine ⟨_, rfl, ?_⟩
  refine hK.out _ _ ⟨(pw_cell_below hb11 hHeld.1), (pw_cell_below hb11 hHeld.2.1), (pw_cell_below hb11 hHeld.2.2.1), (pw_cell_below hb11 hHeld.2.2.2.1), (pw_cell_below hb11 hHeld.2.2.2.2.1), (pw_cell_below hb11 hHeld.2.2.2.2.2.1), (pw_cell_below hb11 hHeld.2.2.2.2.2.2.1), (pw_cell_below hb11 hHeld.2.2.2.2.2.2.2.1), (pw_cell_below hb11 hHeld.2.2.2.2.2.2.2.2.1), (pw_cell_below hb11 hHeld.2.2.2.2.2.2.2.2.2)⟩ (fun hHeld => ?_)
  clear hK K
  refine norm_ (a' := ?_) ?_ ?_
  rotate_left
  · show Act.put _ (some 23) _ = _
    simp only [Act.put, List.setIfInBounds_toArray, List.set_cons_zero, List.set_cons_succ, i64_w, i32_w]
    rfl
  refine last_ (i := 3) (N := some 24) #[true, true, true, true] rfl rfl (by kernel_rfl) (by decide) (fun K hK => ?_)
  refine goesF_ Try.func46 (by kernel_rfl) rfl #[.int .i64 s0] (by rfl) rfl rfl (by rfl) (by simp only [List.map_toArray, List.map_cons, List.map_nil]; rfl) ?_
  have HJ := Aside0.mk (show SInv w w11 gu gh go gr gf R #[.int .i64 a0_0, .int .i64 a0_1, .slice A0_2 l0_2.length c0_2, .int .i64 a0_3, .int .i64 a0_4, .int .i64 a0_5, .int .i64 a0_6, .int .i64 a0_7, .int .i64 a0_8] H 0 (List.replicate H false) [] (.slice none 0 0) from (SInv.below ⟨HU10.out, HG10.out, HV10.out, HM10.out, HF10.out, HO10.out, Kd.S_nil _ _ _ _ _, HB10.out⟩ (below_step (below_drew (Below.refl w10.heap.size w10)) hb11)))
  refine (sched_from a0_0 a0_1 A0_2 c0_2 l0_2 a0_3 a0_4 a0_5 a0_6 a0_7 a0_8 HR.out HC.out HH.out Ggo.out Ggr.out GR.out H w11 (List.replicate H false) [] (.slice none 0 0) [] s0 HJ.out rfl (by simp) (by simp) (by have := HH.out; have : 2 ^ H ≤ 2 ^ 8 := Nat.pow_le_pow_right (by omega) this; simp; omega)).mono ?_
  rintro e w12 ⟨rfl, v12, all12, _, _, hj12, _⟩
  refine ⟨_, rfl, ?_⟩
  rw [List.nil_append] at hj12
  refine hK.out _ _ ?_
  clear hK K
  refine norm_ (a' := ?_) ?_ ?_
  rotate_left
  · show Act.put _ (some 24) _ = _
    simp only [Act.put, List.setIfInBounds_toArray, List.set_cons_zero, List.set_cons_succ, i64_w, i32_w]
    rfl
  refine done_ (by kernel_rfl) ?_
  have hr12 : w12.cell? ⟨go, 0, none⟩ = some v12 := (blk_cell hj12.o 0).trans rfl
  have HJ12 := Aside0.mk hj12
  obtain ⟨Av, cv, ev⟩ := Kd.S_slice hj12.s
  clear hj12
  subst ev
  go_wp2_with fail
  go_ret2
  exact ⟨_, rfl, Kd.S_mono HJ12.out.s (fun _ _ => trivial), HJ12.out.b⟩
set_option maxHeartbeats 8000000 in
set_option maxRecDepth 100000 in
theorem schedules_bad (a0_0 a0_1 : Int) (A0_2 : Option Addr) (c0_2 : Nat) (l0_2 : List S99) (a0_3 a0_4 a0_5 a0_6 a0_7 a0_8 a1 : Int) (w : World) (hr0_2 : Kd.C k99 w A0_2 l0_2.length l0_2) (hc0_2 : l0_2.length ≤ c0_2)
    (c r : Int) (hcf : checkF a0_0 a0_1 l0_2 a0_3 a0_4 a0_5 a0_6 a0_7 a0_8 6 = c) (hc : c ≠ 0 ∧ r = c ∨ c = 0 ∧ r = 1 ∧ inB a1 0 8 = false) :
    Calls Try.prog 19 #[.agg #[.int .i64 a0_0, .int .i64 a0_1, .slice A0_2 l0_2.length c0_2, .int .i64 a0_3, .int .i64 a0_4, .int .i64 a0_5, .int .i64 a0_6, .int .i64 a0_7, .int .i64 a0_8], .int .i64 a1] w fun e w' => e = .returned (.tuple #[.slice none 0 0, .int .i64 r]) ∧ Below w.heap.size w w' := by
  obtain ⟨kc, hkc⟩ := (check_f a0_0 a0_1 l0_2 a0_3 a0_4 a0_5 a0_6 a0_7 a0_8 6).some
  rw [hcf] at hkc
  clear hcf
  have HKC := Aside0.mk hkc
  have HR := Aside0.mk hr0_2
  have HC := Aside0.mk hc0_2
  have hu24 := Try.underlying24
  clear hkc hr0_2 hc0_2
  rcases hc with ⟨h0, rfl⟩ | ⟨rfl, rfl, hi⟩
  rotate_left
  · have HI := Aside0.mk hi
    clear hi
    go_enter Try.func19, Try.ntmps19
    go_wp2_with (first | ((with_reducible refine gate_dst (N := 2) rfl ?_); refine box_event ?hg (N := 2) ?hd (cs := #[.int .i64 a0_0, .int .i64 a0_1, .slice A0_2 l0_2.length c0_2, .int .i64 a0_3, .int .i64 a0_4, .int .i64 a0_5, .int .i64 a0_6, .int .i64 a0_7, .int .i64 a0_8]) (t := 24) ?hr ?_; (case hd => rfl); (case hg => rfl); (case hr => first | (go_simp; done) | (go_simp; rfl)); intro gu hgu w1 hU hb1; have HU := Aside0.mk hU; have HB := Aside0.mk hb1; have HGU := Aside0.mk (Nat.le_of_eq hgu.symm); clear hgu hU hb1) | ((with_reducible refine gate_dst (N := 3) rfl ?_); refine box_event ?hg (N := 3) ?hd (cs := #[.int .i64 a1]) (t := 3) ?hr ?_; (case hd => rfl); (case hg => rfl); (case hr => first | (go_simp; done) | (go_simp; rfl)); intro gh hgh w2 hh hb2; have HG2 := Aside0.mk hh; have HU2 := Aside0.mk (blk_below HU.out hb2); have HB2 := Aside0.mk (below_step HB.out hb2); clear hgh hh hb2 HU HB; have u0 := (blk_cell HU2.out 0).trans rfl; have u1 := (blk_cell HU2.out 1).trans rfl; have u2 := (blk_cell HU2.out 2).trans rfl; have u3 := (blk_cell HU2.out 3).trans rfl; have u4 := (blk_cell HU2.out 4).trans rfl; have u5 := (blk_cell HU2.out 5).trans rfl; have u6 := (blk_cell HU2.out 6).trans rfl; have u7 := (blk_cell HU2.out 7).trans rfl; have u8 := (blk_cell HU2.out 8).trans rfl))
    refine (unit_Check.calls kc a0_0 a0_1 A0_2 c0_2 l0_2 a0_3 a0_4 a0_5 a0_6 a0_7 a0_8 6 0 _ (Kd.C_below HR.out HB2.out) HC.out HKC.out).mono ?_
    rintro e w3 ⟨rfl, hb3⟩
    have HG3 := Aside0.mk (blk_below HG2.out hb3)
    have HB3 := Aside0.mk (below_step HB2.out hb3)
    clear hb3 HU2 HG2 HB2 u0 u1 u2 u3 u4 u5 u6 u7 u8
    have h3 : w3.cell? ⟨gh, 0, none⟩ = some (.int .i64 a1) := (blk_cell HG3.out 0).trans rfl
    go_wp2_with fail
    refine (unit_within_int.calls a1 0 8 false _ (by rw [within_f, HI.out])).mono ?_
    rintro e w4 ⟨rfl, hd4⟩
    have HB4 := Aside0.mk (below_step HB3.out hd4.below)
    clear hd4 HG3 HB3 h3
    go_wp2_with fail
    go_ret2
    exact ⟨rfl, HB4.out⟩
  · have e1 : (r == 0) = false := beq_eq_false_iff_ne.mpr h0
    have e2 : (r != 0) = true := bne_iff_ne.mpr h0
    clear h0
    go_enter Try.func19, Try.ntmps19
    go_wp2_with (first | ((with_reducible refine gate_dst (N := 2) rfl ?_); refine box_event ?hg (N := 2) ?hd (cs := #[.int .i64 a0_0, .int .i64 a0_1, .slice A0_2 l0_2.length c0_2, .int .i64 a0_3, .int .i64 a0_4, .int .i64 a0_5, .int .i64 a0_6, .int .i64 a0_7, .int .i64 a0_8]) (t := 24) ?hr ?_; (case hd => rfl); (case hg => rfl); (case hr => first | (go_simp; done) | (go_simp; rfl)); intro gu hgu w1 hU hb1; have HU := Aside0.mk hU; have HB := Aside0.mk hb1; have HGU := Aside0.mk (Nat.le_of_eq hgu.symm); clear hgu hU hb1) | ((with_reducible refine gate_dst (N := 3) rfl ?_); refine box_event ?hg (N := 3) ?hd (cs := #[.int .i64 a1]) (t := 3) ?hr ?_; (case hd => rfl); (case hg => rfl); (case hr => first | (go_simp; done) | (go_simp; rfl)); intro gh hgh w2 hh hb2; have HG2 := Aside0.mk hh; have HU2 := Aside0.mk (blk_below HU.out hb2); have HB2 := Aside0.mk (below_step HB.out hb2); clear hgh hh hb2 HU HB; have u0 := (blk_cell HU2.out 0).trans rfl; have u1 := (blk_cell HU2.out 1).trans rfl; have u2 := (blk_cell HU2.out 2).trans rfl; have u3 := (blk_cell HU2.out 3).trans rfl; have u4 := (blk_cell HU2.out 4).trans rfl; have u5 := (blk_cell HU2.out 5).trans rfl; have u6 := (blk_cell HU2.out 6).trans rfl; have u7 := (blk_cell HU2.out 7).trans rfl; have u8 := (blk_cell HU2.out 8).trans rfl))
    refine (unit_Check.calls kc a0_0 a0_1 A0_2 c0_2 l0_2 a0_3 a0_4 a0_5 a0_6 a0_7 a0_8 6 r _ (Kd.C_below HR.out HB2.out) HC.out HKC.out).mono ?_
    rintro e w3 ⟨rfl, hb3⟩
    have HB3 := Aside0.mk (below_step HB2.out hb3)
    clear hb3 HU2 HG2 HB2 u0 u1 u2 u3 u4 u5 u6 u7 u8
    go_wp2_with fail
    go_ret2
    exact ⟨rfl, HB3.out⟩
def unit_Schedules.f (a0_0 : Int) (a0_1 : Int) (l0_2 : List (S99)) (a0_3 : Int) (a0_4 : Int) (a0_5 : Int) (a0_6 : Int) (a0_7 : Int) (a0_8 : Int) (a1 : Int) : Option (List (List Bool) × Int) := some (schedF a0_0 a0_1 l0_2 a0_3 a0_4 a0_5 a0_6 a0_7 a0_8 a1)
theorem unit_Schedules.calls (a0_0 : Int) (a0_1 : Int) (A0_2 : Option Addr) (c0_2 : Nat) (l0_2 : List (S99)) (a0_3 : Int) (a0_4 : Int) (a0_5 : Int) (a0_6 : Int) (a0_7 : Int) (a0_8 : Int) (a1 : Int) (r1 : List (List Bool)) (r2 : Int) (w : World) (hr0_2 : Kd.C k99 w A0_2 l0_2.length l0_2) (hc0_2 : l0_2.length ≤ c0_2) (h : unit_Schedules.f a0_0 a0_1 l0_2 a0_3 a0_4 a0_5 a0_6 a0_7 a0_8 a1 = some (r1, r2)) :
    Calls Try.prog 19 #[.agg #[.int .i64 a0_0, .int .i64 a0_1, .slice A0_2 l0_2.length c0_2, .int .i64 a0_3, .int .i64 a0_4, .int .i64 a0_5, .int .i64 a0_6, .int .i64 a0_7, .int .i64 a0_8], .int .i64 a1] w fun e w' => ∃ v0_ : Value, e = .returned (.tuple #[v0_, .int .i64 r2]) ∧ Kd.S (Kd.slice 4 Kd.bool) 32 w' w.heap.size (fun _ => True) v0_ r1 ∧ Below w.heap.size w w' := by
  have h := Option.some.inj h
  unfold schedF at h
  by_cases hc : checkF a0_0 a0_1 l0_2 a0_3 a0_4 a0_5 a0_6 a0_7 a0_8 6 = 0
  · rw [if_pos hc] at h
    by_cases hi : inB a1 0 8 = true
    · rw [if_pos hi] at h
      obtain ⟨rfl, rfl⟩ := Prod.mk.inj h
      have hb : 0 ≤ a1 ∧ a1 ≤ 8 := by simpa [inB] using hi
      obtain ⟨H, rfl⟩ := Int.eq_ofNat_of_zero_le hb.1
      rw [show ((H : Int)).toNat = H from rfl]
      exact schedules_ok a0_0 a0_1 A0_2 c0_2 l0_2 a0_3 a0_4 a0_5 a0_6 a0_7 a0_8 H w hr0_2 hc0_2 hc (by omega)
    · rw [if_neg hi] at h
      obtain ⟨rfl, rfl⟩ := Prod.mk.inj h
      refine (schedules_bad a0_0 a0_1 A0_2 c0_2 l0_2 a0_3 a0_4 a0_5 a0_6 a0_7 a0_8 a1 w hr0_2 hc0_2 _ 1 hc (.inr ⟨rfl, rfl, by simpa using hi⟩)).mono ?_
      rintro e w' ⟨rfl, hb⟩
      exact ⟨_, rfl, Kd.S_nil _ _ _ _ _, hb⟩
  · rw [if_neg hc] at h
    obtain ⟨rfl, rfl⟩ := Prod.mk.inj h
    refine (schedules_bad a0_0 a0_1 A0_2 c0_2 l0_2 a0_3 a0_4 a0_5 a0_6 a0_7 a0_8 a1 w hr0_2 hc0_2 _ _ rfl (.inl ⟨hc, rfl⟩)).mono ?_
    rintro e w' ⟨rfl, hb⟩
    exact ⟨_, rfl, Kd.S_nil _ _ _ _ _, hb⟩
end Go.Proofs.Ytelklgdmhnkenaa.U
