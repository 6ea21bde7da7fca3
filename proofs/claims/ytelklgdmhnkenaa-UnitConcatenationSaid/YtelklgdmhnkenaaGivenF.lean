/- unit.Schedules: all feasible schedules in order, as plain Lean, and that the call (a recursive closure) answers so. -/
import Derived.Test.YtelklgdmhnkenaaUxf23
import Derived.Test.YtelklgdmhnkenaaUxf34
import Derived.Test.YtelklgdmhnkenaaUxf45
import Derived.Test.YtelklgdmhnkenaaUxf48
import Derived.Test.YtelklgdmhnkenaaGivenE
import Derived.Laws.EntriesVeiled
namespace Go.Proofs.Ytelklgdmhnkenaa.U
open Go.RowKit Go.Proofs.YtelklgdmhnkenaaW.PrintWords Go.Proofs.YtelklgdmhnkenaaW.PrintLast Go.Proofs.YtelklgdmhnkenaaW.PrintMore
set_option linter.unusedVariables false
set_option linter.unusedSimpArgs false

/-- What unit.next answers. -/
def nxF (up down s : Int) (on : Bool) : Int × Bool :=
  if on = true ∧ s > 0 then (mx (wrap64 (-down)) (mn up (wrap64 (s + 1))), true)
  else if on = false ∧ s < 0 then (mx (wrap64 (-down)) (mn up (wrap64 (s - 1))), true)
  else if on = true ∧ s = wrap64 (-down) then (1, true)
  else if on = false ∧ s = up then (-1, true)
  else (0, false)
theorem next_f (bus min : Int) (l : List S99) (up down start idle spin ion s : Int) (on : Bool) :
    unit_next.f 3 bus min l up down start idle spin ion s on = some (nxF up down s on) := by
  unfold unit_next.f nxF
  cases on
  · simp only [unit_next.j0, unit_next.j1, unit_next.j2, unit_held.f, Option.bind_some]
    by_cases h : s < 0
    · have : ¬ s > 0 := by omega
      simp [h, this]
    · by_cases h2 : s = up
      · simp [h, h2]
        split <;> rfl
      · simp [h, h2]
  · simp only [unit_next.j0, unit_next.j1, unit_next.j2, unit_held.f, Option.bind_some]
    by_cases h : s > 0
    · simp [h]
    · by_cases h2 : s = wrap64 (-down)
      · simp [h, h2]
        split <;> rfl
      · simp [h, h2]

/-- The schedules that begin with 'pre' and go on for d hours from state s. -/
def schedFrom (up down : Int) : Nat → List Bool → Int → List (List Bool)
  | 0, pre, _ => [pre]
  | d + 1, pre, s =>
    (if (nxF up down s false).2 = true then schedFrom up down d (pre ++ [false]) (nxF up down s false).1 else []) ++
    (if (nxF up down s true).2 = true then schedFrom up down d (pre ++ [true]) (nxF up down s true).1 else [])
theorem schedFrom_length (up down : Int) : ∀ (d : Nat) (pre : List Bool) (s : Int), (schedFrom up down d pre s).length ≤ 2 ^ d
  | 0, _, _ => by simp [schedFrom]
  | d + 1, pre, s => by
    have h1 := schedFrom_length up down d (pre ++ [false]) (nxF up down s false).1
    have h2 := schedFrom_length up down d (pre ++ [true]) (nxF up down s true).1
    rw [schedFrom, List.length_append, Nat.pow_succ]
    split <;> split <;> simp <;> omega

def bls (l : List Bool) : List Value := l.map fun b => .bool b

theorem sched_apart {W w3 : World} {v v3 : Value} {gr R k : Nat} {pre : List Bool} (ho : Kd.R Kd.bool 4 w3 W.heap.size (fun _ => True) v3 pre) (hb : Below W.heap.size W w3)
    (hv : ∀ k, v.ownBlock = some k → k < W.heap.size) (hg : gr < W.heap.size) (hR : R < W.heap.size) (hk : some k = v3.ownBlock) : (k ≠ gr ∧ k ≠ R) ∧ some k ≠ v.ownBlock := by
  have h := Kd.R_base ho k hk.symm
  refine ⟨⟨by omega, by omega⟩, fun e => ?_⟩
  have := hv k e.symm
  omega
theorem sched_fresh {W w3 : World} {gr R k : Nat} (hb : Below W.heap.size W w3) (hg : gr < W.heap.size) (hR : R < W.heap.size) (hk : w3.heap.size ≤ k) : k ≠ gr ∧ k ≠ R := by
  have := hb.size
  exact ⟨by omega, by omega⟩

/-- The closure's variables in memory. -/
structure SInv (w0 W : World) (gu gh go gr gf R : Nat) (us : Array Value) (H p : Nat) (all : List Bool) (out : List (List Bool)) (v : Value) : Prop where
  u : W.heap[gu]? = some (.cells us 24 (0, 0))
  h : W.heap[gh]? = some (.cells #[.int .i64 H] 3 (0, 0))
  r : W.heap[gr]? = some (.cells #[.slice (some ⟨R, 0, none⟩) p H] 32 (0, 0))
  a : W.heap[R]? = some (.cells (bls all).toArray 4 (0, 0))
  f : W.heap[gf]? = some (.cells #[.func (.func 46) #[] #[.pointer (some ⟨gr, 0, none⟩), .pointer (some ⟨gh, 0, none⟩), .pointer (some ⟨go, 0, none⟩), .pointer (some ⟨gu, 0, none⟩), .pointer (some ⟨gf, 0, none⟩)]] 74 (0, 0))
  o : W.heap[go]? = some (.cells #[v] 27 (0, 0))
  s : Kd.S (Kd.slice 4 Kd.bool) 32 W w0.heap.size (fun k => k ≠ gr ∧ k ≠ R) v out
  b : Below w0.heap.size w0 W
theorem SInv.below {w0 W W' : World} {gu gh go gr gf R : Nat} {us : Array Value} {H p : Nat} {all : List Bool} {out : List (List Bool)} {v : Value} (i : SInv w0 W gu gh go gr gf R us H p all out v) (hb : Below W.heap.size W W') :
    SInv w0 W' gu gh go gr gf R us H p all out v :=
  ⟨blk_below i.u hb, blk_below i.h hb, blk_below i.r hb, blk_below i.a hb, blk_below i.f hb, blk_below i.o hb, Kd.S_below i.s hb, below_step i.b hb⟩
theorem sched_reads {w0 W : World} {gu gh go gr gf R : Nat} {us : Array Value} {H p : Nat} {all : List Bool} {out : List (List Bool)} {v : Value} (i : SInv w0 W gu gh go gr gf R us H p all out v) {pre : List Bool} (hp : all.take pre.length = pre) (hl : all.length ≤ 8) (hle : pre.length ≤ all.length) :
    Kd.C Kd.bool W (some ⟨R, 0, none⟩) pre.length pre := by
  refine ⟨rfl, by omega, fun _ => ⟨_, rfl, fun j b hj => ⟨[.bool b], rfl, rfl, fun q u hq => ?_⟩⟩⟩
  have hj' : j < pre.length := (List.getElem?_eq_some_iff.1 hj).1
  have hb : all[j]? = some b := by
    rw [← hp] at hj
    rw [List.getElem?_take_of_lt hj'] at hj
    exact hj
  obtain rfl : q = 0 := by
    have := (List.getElem?_eq_some_iff.1 hq).1
    simpa using this
  have : u = .bool b := by simpa using hq.symm
  subst this
  rw [show (Kd.bool).sz = 1 from rfl, Nat.mul_one, Nat.add_zero, add_plain, blk_cell i.a]
  simp [bls, hb]

set_option maxHeartbeats 8000000 in
set_option maxRecDepth 100000 in
theorem sched_leaf {w0 W : World} {gu gh go gr gf R : Nat} {us : Array Value} {H : Nat} {all : List Bool} {out : List (List Bool)} {v : Value} (pre : List Bool) (st : Int)
    (i : SInv w0 W gu gh go gr gf R us H pre.length all out v) (hp : all.take pre.length = pre) (hlen : all.length = H) (hd : pre.length = H) (hH : H ≤ 8) (hol : out.length < 256) (hgo : w0.heap.size ≤ go) :
    Calls Try.prog 46 #[.int .i64 st, .pointer (some ⟨gr, 0, none⟩), .pointer (some ⟨gh, 0, none⟩), .pointer (some ⟨go, 0, none⟩), .pointer (some ⟨gu, 0, none⟩), .pointer (some ⟨gf, 0, none⟩)] W fun e W' => e = .returned (.tuple #[]) ∧
      ∃ v', SInv w0 W' gu gh go gr gf R us H pre.length all (out ++ [pre]) v' ∧ ∀ k cs, W.heap[k]? = some (.cells cs 4 (0, 0)) → k ≠ R → W'.heap[k]? = some (.cells cs 4 (0, 0)) := by
  have hCR0 := sched_reads i hp (by omega) (by omega)
  have HCR := Aside0.mk hCR0
  have HI := Aside0.mk i
  have HS := Aside0.mk i.s
  have HB0 := Aside0.mk i.b
  have hcg : W.cell? ⟨gr, 0, none⟩ = some (.slice (some ⟨R, 0, none⟩) pre.length H) := (blk_cell i.r 0).trans rfl
  have hch : W.cell? ⟨gh, 0, none⟩ = some (.int .i64 H) := (blk_cell i.h 0).trans rfl
  have hco : W.cell? ⟨go, 0, none⟩ = some v := (blk_cell i.o 0).trans rfl
  have HCO := Aside0.mk hco
  have HCG := Aside0.mk hcg
  have HFO := Aside0.mk (blk_frozen i.o 0)
  have HPL := Aside0.mk (show pre.length ≤ H by omega)
  have HPB := Aside0.mk (show pre.length < 140737488355328 by omega)
  have HG1 := Aside0.mk (blk_lt i.r)
  have HGO := Aside0.mk (blk_lt i.o)
  have HR1 := Aside0.mk (blk_lt i.a)
  have HV1 := Aside0.mk (Kd.S_lt i.s)
  have HOL := Aside0.mk hol
  have HGE := Aside0.mk hgo
  have HVR : Aside0 (some gr ≠ v.ownBlock) := ⟨fun e => ((Kd.S_bound i.s).choose_spec.1 gr e.symm).1.1 rfl⟩
  have HVO : Aside0 (some go ≠ v.ownBlock) := ⟨fun e => by
    obtain ⟨cells, hc⟩ := Kd.S_typed i.s go e.symm
    rw [i.o] at hc
    injection hc with hc
    injection hc with _ hc
    exact absurd hc (by decide)⟩
  obtain ⟨Av, cv, ev⟩ := Kd.S_slice i.s
  have b0 : ((pre.length : Int) == (H : Int)) = true := by rw [beq_iff_eq]; omega
  have b1 : (pre.length == H) = true := by rw [beq_iff_eq]; exact hd
  have HD := Aside0.mk hd
  clear hCR0 i hp hlen hd hH hol hgo
  subst ev
  go_enter Try.func46, Try.ntmps46
  go_wp2_with fail
  refine start_ (n := 6) (S := fun w' => w'.cell? ⟨go, 0, none⟩ = some (.slice Av out.length cv) ∧ w'.cell? ⟨gr, 0, none⟩ = some (.slice (some ⟨R, 0, none⟩) pre.length H)) (ds := [5]) #[false, false, false, false, false, false] (by kernel_rfl) rfl rfl ⟨HCO.out, HCG.out⟩ (fun hHeld => ?_)
  refine take_ (i := 0) (N := some 15) (v := ?_) (a' := ?_) #[true, false, false, false, false, false] rfl rfl (by kernel_rfl) (fun _ _ _ h => h) (Or.inl ⟨by rfl, ?_⟩) hHeld ?_ ?_
  rotate_left
  · rintro w' ⟨s0, s1⟩
    go_simp
    with_reducible rfl
  rotate_left
  · simp only [Act.put, List.setIfInBounds_toArray, List.set_cons_zero, List.set_cons_succ, i64_w, i32_w]
    rfl
  refine take_ (i := 1) (N := some 16) (v := ?_) (a' := ?_) #[true, true, false, false, false, false] rfl rfl (by kernel_rfl) (fun _ _ _ h => h) (Or.inl ⟨by rfl, ?_⟩) hHeld ?_ ?_
  rotate_left
  · rintro w' ⟨s0, s1⟩
    go_simp
    with_reducible rfl
  rotate_left
  · simp only [Act.put, List.setIfInBounds_toArray, List.set_cons_zero, List.set_cons_succ, i64_w, i32_w]
    rfl
  refine one_ (i := 2) (N := some 17) #[true, true, true, false, false, false] rfl rfl (by kernel_rfl) (by decide) (fun K hK => ?_)
  refine goes_ Try.func47 (by kernel_rfl) rfl #[.slice (some ⟨R, 0, none⟩) pre.length H] (by rfl) rfl rfl (by simp only [List.map_toArray, List.map_cons, List.map_nil]; rfl) ?_
  with_reducible refine (clone_bools ⟨R, 0, none⟩ H pre _ (Kd.C_drew HCR.out) HPL.out HPB.out).mono ?_
  rintro e w3 ⟨v3, rfl, ho3, hb3⟩
  obtain ⟨A3, c3, e3⟩ := Kd.R_slice ho3
  subst e3
  refine ⟨_, rfl, ?_⟩
  refine hK.out _ _ ⟨(pw_cell_below hb3 hHeld.1), (pw_cell_below hb3 hHeld.2)⟩ (fun hHeld => ?_)
  clear hK K
  refine norm_ (a' := ?_) ?_ ?_
  rotate_left
  · show Act.put _ (some 17) _ = _
    simp only [Act.put, List.setIfInBounds_toArray, List.set_cons_zero, List.set_cons_succ, i64_w, i32_w]
    rfl
  refine one_ (i := 3) (N := some 18) #[true, true, true, true, false, false] rfl rfl (by kernel_rfl) (by decide) (fun K hK => ?_)
  refine value_ (w1 := ?_) (v := ?_) (by rfl) rfl ?_ ?_
  rotate_left 2
  · go_simp
    constructor
    · rfl
    · rfl
  refine hK.out _ _ ⟨(pw_cell_below (below_alloc (Below.refl _ _) _) hHeld.1), (pw_cell_below (below_alloc (Below.refl _ _) _) hHeld.2)⟩ (fun hHeld => ?_)
  clear hK K
  refine norm_ (a' := ?_) ?_ ?_
  rotate_left
  · show Act.put _ (some 18) _ = _
    simp only [Act.put, List.setIfInBounds_toArray, List.set_cons_zero, List.set_cons_succ, i64_w, i32_w]
    rfl
  refine one_ (i := 4) (N := some 19) #[true, true, true, true, true, false] rfl rfl (by kernel_rfl) (by decide) (fun K hK => ?_)
  refine Kd.S_append_step (Kd.slice 4 Kd.bool) (w0 := w0) w0.heap.size (by rfl) (.tmp 15) (.tmp 18) 27 32 (.slice none 0 0) 24 (by rfl) Try.underlying27 info32 rfl (by decide) (by decide) (.slice Av out.length cv) out pre [.slice A3 pre.length c3] (fun k => k ≠ gr ∧ k ≠ R) (fun k => some k = (Value.slice A3 pre.length c3).ownBlock) (by rfl) (by rfl) (Kd.M_row (Kd.R_lower (Kd.R_tight rfl ho3) HB0.out.size)) (fun k hk => sched_apart ho3 hb3 HV1.out HG1.out HR1.out hk) (fun k hk => sched_fresh hb3 HG1.out HR1.out hk) (Kd.S_mono (Kd.S_elder' (Kd.S_drew HS.out) (Kd.R_base ho3) hb3) (fun k hk => ⟨hk.1, fun h => hk.2 h⟩)) (below_step (below_drew HB0.out) hb3) (Nat.le_trans HB0.out.size hb3.size) (by have := HOL.out; omega) ?_
  intro v4 w4 ho4 hb4 hg4 hat4
  obtain ⟨A4, c4, e4⟩ := Kd.S_slice ho4
  subst e4
  have hne4 : ∀ k, k < W.heap.size → some k ≠ (Value.slice Av out.length cv).ownBlock → w4.heap[k]? = W.heap[k]? := fun k hk hn => (hg4.block k (Nat.lt_of_lt_of_le hk hb3.size) hn).trans (hb3.block k hk)
  refine hK.out _ _ ⟨((World.cell?_of_block (w := W) (hne4 go HGO.out HVO.out)).trans HCO.out), ((World.cell?_of_block (w := W) (hne4 gr HG1.out HVR.out)).trans HCG.out)⟩ (fun hHeld => ?_)
  clear hK K
  refine norm_ (a' := ?_) ?_ ?_
  rotate_left
  · show Act.put _ (some 19) _ = _
    simp only [Act.put, List.setIfInBounds_toArray, List.set_cons_zero, List.set_cons_succ, i64_w, i32_w]
    rfl
  refine last_ (i := 5) (N := none) #[true, true, true, true, true, true] rfl rfl (by kernel_rfl) (by decide) (fun K hK => ?_)
  have hfo : w4.frozen? ⟨go, 0, none⟩ = false := (World.frozen?_of_block (w := W) (hne4 go HGO.out HVO.out)).trans HFO.out
  have hco := hHeld.1
  refine skip_ (w1 := ?_) (by rfl) rfl ?_ ?_
  rotate_left
  · go_simp
    rfl
  refine hK.out _ _ ?_
  clear hK K
  refine done_ (by kernel_rfl) ?_
  go_wp2_with fail
  refine bodyPost_ret (results_none rfl _ _ _) rfl ?_
  have hI := HI.out
  have eL : (out ++ [pre]).length = out.length + 1 := by simp
  rw [eL] at ho4
  refine ⟨rfl, .slice A4 (out.length + 1) c4, ?_⟩
  have hfar : ∀ (k t : Nat) (cs : Array Value), W.heap[k]? = some (.cells cs t (0, 0)) → k ≠ go → t ≠ 32 ∨ k = gr → (w4.setCell ⟨go, 0, none⟩ (.slice A4 (out.length + 1) c4)).heap[k]? = some (.cells cs t (0, 0)) := fun k t cs hk hne ht => by
    rw [Below.heap_setCell _ _ _ _ (by exact hne)]
    refine (hne4 k (blk_lt hk) (fun e => ?_)).trans hk
    rcases ht with ht | rfl
    · obtain ⟨cells, hc⟩ := Kd.S_typed hI.s k e.symm
      rw [hk] at hc
      injection hc with hc
      injection hc with _ hc
      exact ht hc
    · exact HVR.out e
  have hneq : ∀ (k t : Nat) (cs : Array Value), W.heap[k]? = some (.cells cs t (0, 0)) → t ≠ 27 → k ≠ go := fun k t cs hk ht e => by
    subst e
    rw [hI.o] at hk
    injection hk with hk
    injection hk with _ hk
    exact ht hk.symm
  have ho4' : w4.heap[go]? = some (.cells #[.slice Av out.length cv] 27 (0, 0)) := (hne4 go (blk_lt hI.o) HVO.out).trans hI.o
  refine ⟨?_, fun k cs hk _ => hfar k 4 cs hk (hneq _ _ _ hk (by decide)) (.inl (by decide))⟩
  refine ⟨hfar _ _ _ hI.u (hneq _ _ _ hI.u (by decide)) (.inl (by decide)), hfar _ _ _ hI.h (hneq _ _ _ hI.h (by decide)) (.inl (by decide)), hfar _ _ _ hI.r (hneq _ _ _ hI.r (by decide)) (.inr rfl), hfar _ _ _ hI.a (hneq _ _ _ hI.a (by decide)) (.inl (by decide)), hfar _ _ _ hI.f (hneq _ _ _ hI.f (by decide)) (.inl (by decide)), blk_put ho4' 0 _ rfl, ?_, ?_⟩
  · exact Kd.S_set ho4 ho4' (by decide) 0 _
  · exact hb4.setCell (p := ⟨go, 0, none⟩) HGE.out _

theorem sched_append_room {P : Program} {w : World} {ops : Array Oper} {rest : List Oper} {o : Oper} {a : Act} {Q : Exit → Act → World → Prop}
    (hg : o.guard = none) (s x : Operand) (t : TypeId) (hop : o.op = Op.call { callee := Callee.builtin Builtin.append, args := #[s, x], argTypes := #[t, t] })
    (e : TypeId) (i : TypeInfo) (h1 : P.underlying t = some (.slice e)) (h2 : P.info? e = some i) (h4 : i.size = 1)
    (g n cap : Nat) (cur : Array Value) (hs : a.eval s = .slice (some ⟨g, 0, none⟩) n cap) (hb : w.heap[g]? = some (.cells cur e (0, 0))) (ad : Addr) (c : Nat) (u : Value) (hx : a.eval x = .slice (some ad) 1 c)
    (hc : w.cell? ad = some u) (h1c : u.oneCell' = true) (hroom : n + 1 ≤ cap) (hfit : n + 1 ≤ cur.size)
    (hK : wpList P ops Q rest (a.put o.dst (.slice (some ⟨g, 0, none⟩) (n + 1) cap)) (w.setRow g (cur.toList.take n ++ [u] ++ cur.toList.drop (n + 1)).toArray)) :
    wpList P ops Q (o :: rest) a w := by
  refine wpList_plain hg fun K hK' => ?_
  have hrun := run_append_room (P := P) w t o.type e i h1 h2 g n cap cur hb ad 1 c [u] (by rw [h4]; rfl) (fun j v hj => by
    obtain rfl : j = 0 := by
      have := (List.getElem?_eq_some_iff.1 hj).1
      simpa using this
    obtain rfl : u = v := by simpa using hj
    simpa [Addr.add] using hc) (by simpa using h1c) hroom (by rw [h4]; simpa using hfit)
  rw [h4, Nat.mul_one] at hrun
  unfold Oper.wp
  simp [execOp, hop, resolve, invoke, builtin, hs, hx, hrun, Result.andThen]
  refine hK' _ _ ?_
  simpa using hK
theorem below_setRow {B : Nat} {w0 W : World} (h : Below B w0 W) {g : Nat} (hg : B ≤ g) (cs : Array Value) : Below B w0 (W.setRow g cs) :=
  h.trans ⟨rfl, rfl, rfl, by simp, fun k hk => setRow_other W g k cs (by omega)⟩
section
variable {w0 W : World} {gu gh go gr gf R : Nat} {us : Array Value} {H p : Nat} {all : List Bool} {out : List (List Bool)} {v : Value}
theorem SInv.setR (i : SInv w0 W gu gh go gr gf R us H p all out v) (all' : List Bool) (hR : w0.heap.size ≤ R) : SInv w0 (W.setRow R (bls all').toArray) gu gh go gr gf R us H p all' out v := by
  have hne : ∀ (k t : Nat) (cs : Array Value), W.heap[k]? = some (.cells cs t (0, 0)) → t ≠ 4 → (W.setRow R (bls all').toArray).heap[k]? = some (.cells cs t (0, 0)) := fun k t cs hk ht =>
    (setRow_other W R k _ (blk_ne hk i.a ht)).trans hk
  exact ⟨hne _ _ _ i.u (by decide), hne _ _ _ i.h (by decide), hne _ _ _ i.r (by decide), setRow_heap W R _ _ 4 (0, 0) i.a, hne _ _ _ i.f (by decide), hne _ _ _ i.o (by decide), Kd.S_step i.s (fun k hk _ => setRow_other W R k _ hk.2), below_setRow i.b hR _⟩
theorem SInv.setG (i : SInv w0 W gu gh go gr gf R us H p all out v) (p' : Nat) (hg : w0.heap.size ≤ gr) : SInv w0 (W.setCell ⟨gr, 0, none⟩ (.slice (some ⟨R, 0, none⟩) p' H)) gu gh go gr gf R us H p' all out v := by
  have hne : ∀ (k t : Nat) (cs : Array Value), W.heap[k]? = some (.cells cs t (0, 0)) → t ≠ 32 → (W.setCell ⟨gr, 0, none⟩ (.slice (some ⟨R, 0, none⟩) p' H)).heap[k]? = some (.cells cs t (0, 0)) := fun k t cs hk ht =>
    (Below.heap_setCell W _ _ k (blk_ne hk i.r ht)).trans hk
  exact ⟨hne _ _ _ i.u (by decide), hne _ _ _ i.h (by decide), blk_put i.r 0 _ rfl, hne _ _ _ i.a (by decide), hne _ _ _ i.f (by decide), hne _ _ _ i.o (by decide), Kd.S_far i.s (fun k hk => hk.1) _, i.b.setCell (p := ⟨gr, 0, none⟩) hg _⟩
end
theorem bls_put (all : List Bool) (n : Nat) (b : Bool) : (bls all).toArray.toList.take n ++ [.bool b] ++ (bls all).toArray.toList.drop (n + 1) = bls (all.take n ++ [b] ++ all.drop (n + 1)) := by
  simp [bls, List.map_take, List.map_drop]
theorem put_take (all pre : List Bool) (b : Bool) (hp : all.take pre.length = pre) (hl : pre.length < all.length) : (all.take pre.length ++ [b] ++ all.drop (pre.length + 1)).take (pre ++ [b]).length = pre ++ [b] ∧ (all.take pre.length ++ [b] ++ all.drop (pre.length + 1)).length = all.length := by
  constructor
  · rw [hp, List.take_append_of_le_length (by simp), List.take_length]
  · rw [hp]
    simp
    omega
/-- What has come before round k of the loop over off, on. -/
def outAt (up down : Int) (d : Nat) (pre : List Bool) (st : Int) (out : List (List Bool)) (k : Nat) : List (List Bool) :=
  out ++ (if 0 < k then (if (nxF up down st false).2 = true then schedFrom up down d (pre ++ [false]) (nxF up down st false).1 else []) else []) ++
    (if 1 < k then (if (nxF up down st true).2 = true then schedFrom up down d (pre ++ [true]) (nxF up down st true).1 else []) else [])
theorem outAt_succ (up down : Int) (d : Nat) (pre : List Bool) (st : Int) (out : List (List Bool)) (k : Nat) (hk : k < 2) :
    outAt up down d pre st out (k + 1) = outAt up down d pre st out k ++ (if (nxF up down st (k == 1)).2 = true then schedFrom up down d (pre ++ [k == 1]) (nxF up down st (k == 1)).1 else []) := by
  obtain rfl | rfl : k = 0 ∨ k = 1 := by omega
  · simp [outAt]
  · simp [outAt]
theorem outAt_two (up down : Int) (d : Nat) (pre : List Bool) (st : Int) (out : List (List Bool)) : outAt up down d pre st out 2 = out ++ schedFrom up down (d + 1) pre st := by
  simp [outAt, schedFrom]
theorem outAt_zero (up down : Int) (d : Nat) (pre : List Bool) (st : Int) (out : List (List Bool)) : outAt up down d pre st out 0 = out := by
  simp [outAt]
theorem outAt_length (up down : Int) (d : Nat) (pre : List Bool) (st : Int) (out : List (List Bool)) (k : Nat) (hk : k < 2) : (outAt up down d pre st out k).length + 2 ^ d ≤ out.length + 2 ^ (d + 1) := by
  obtain rfl | rfl : k = 0 ∨ k = 1 := by omega
  · rw [outAt_zero, Nat.pow_succ]
    omega
  · have h1 := schedFrom_length up down d (pre ++ [false]) (nxF up down st false).1
    rw [Nat.pow_succ]
    by_cases hb : (nxF up down st false).2 = true
    · simp [outAt, hb]
      omega
    · simp [outAt, hb]
      omega

set_option maxHeartbeats 8000000 in
set_option maxRecDepth 100000 in
theorem sched_from {w0 : World} {gu gh go gr gf R : Nat} {H : Nat} (a0_0 a0_1 : Int) (A0_2 : Option Addr) (c0_2 : Nat) (l0_2 : List S99) (up down a0_5 a0_6 a0_7 a0_8 : Int)
    (hr : Kd.C k99 w0 A0_2 l0_2.length l0_2) (hc : l0_2.length ≤ c0_2) (hH : H ≤ 8) (hgo : w0.heap.size ≤ go) (hgr : w0.heap.size ≤ gr) (hR : w0.heap.size ≤ R) (d : Nat) :
    ∀ (W : World) (all : List Bool) (out : List (List Bool)) (v : Value) (pre : List Bool) (st : Int),
    SInv w0 W gu gh go gr gf R #[.int .i64 a0_0, .int .i64 a0_1, .slice A0_2 l0_2.length c0_2, .int .i64 up, .int .i64 down, .int .i64 a0_5, .int .i64 a0_6, .int .i64 a0_7, .int .i64 a0_8] H pre.length all out v →
    all.take pre.length = pre → all.length = H → pre.length + d = H → out.length + 2 ^ d ≤ 256 →
    Calls Try.prog 46 #[.int .i64 st, .pointer (some ⟨gr, 0, none⟩), .pointer (some ⟨gh, 0, none⟩), .pointer (some ⟨go, 0, none⟩), .pointer (some ⟨gu, 0, none⟩), .pointer (some ⟨gf, 0, none⟩)] W fun e W' => e = .returned (.tuple #[]) ∧
      ∃ v' all', all'.take pre.length = pre ∧ all'.length = H ∧
        SInv w0 W' gu gh go gr gf R #[.int .i64 a0_0, .int .i64 a0_1, .slice A0_2 l0_2.length c0_2, .int .i64 up, .int .i64 down, .int .i64 a0_5, .int .i64 a0_6, .int .i64 a0_7, .int .i64 a0_8] H pre.length all' (out ++ schedFrom up down d pre st) v' ∧
        ∀ k cs, W.heap[k]? = some (.cells cs 4 (0, 0)) → k ≠ R → W'.heap[k]? = some (.cells cs 4 (0, 0)) := by
  induction d with
  | zero =>
    intro W all out v pre st i hp hl hd ho
    refine (sched_leaf pre st i hp hl (by omega) hH (by simp at ho; omega) hgo).mono ?_
    rintro e W' ⟨rfl, v', i', hf⟩
    exact ⟨rfl, v', all, hp, hl, i', hf⟩
  | succ d ih =>
    intro W all out v pre st i hp hl hd ho
    have IH := Aside0.mk ih
    clear ih
    have HI := Aside0.mk i
    have HP := Aside0.mk hp
    have HL := Aside0.mk hl
    have HD := Aside0.mk hd
    have HO := Aside0.mk ho
    have HRR := Aside0.mk hr
    have HCC := Aside0.mk hc
    have HH := Aside0.mk hH
    have HG := Aside0.mk (And.intro hgo (And.intro hgr hR))
    have hcg : W.cell? ⟨gr, 0, none⟩ = some (.slice (some ⟨R, 0, none⟩) pre.length H) := (blk_cell i.r 0).trans rfl
    have hch : W.cell? ⟨gh, 0, none⟩ = some (.int .i64 H) := (blk_cell i.h 0).trans rfl
    have b0 : ((pre.length : Int) == (H : Int)) = false := by rw [beq_eq_false_iff_ne]; omega
    have b1 : (pre.length == H) = false := by rw [beq_eq_false_iff_ne]; omega
    have hLR : Aside0 (W.heap.size ≠ R) := ⟨by have := blk_lt i.a; omega⟩
    clear i hp hl hd ho hr hc hH hgo hgr hR
    go_enter Try.func46, Try.ntmps46
    go_wp2_with fail
    go_loopw [22] (fun v22 wr => ∃ (k : Nat) (v1 : Value) (all1 : List Bool), v22 = .int .i64 k ∧ Aside0 (k ≤ 2) ∧ Aside0 (all1.take pre.length = pre ∧ all1.length = H) ∧
      Aside0 (SInv w0 wr gu gh go gr gf R #[.int .i64 a0_0, .int .i64 a0_1, .slice A0_2 l0_2.length c0_2, .int .i64 up, .int .i64 down, .int .i64 a0_5, .int .i64 a0_6, .int .i64 a0_7, .int .i64 a0_8] H pre.length all1 (outAt up down d pre st out k) v1) ∧
      Aside0 (∀ k cs, (W.alloc (.cells #[.bool false, .bool true] 4)).heap[k]? = some (.cells cs 4 (0, 0)) → k ≠ R → wr.heap[k]? = some (.cells cs 4 (0, 0)))) (fun v22 _ => 2 - (intOf v22).toNat)
    case atStart => exact ⟨0, v, all, rfl, ⟨by omega⟩, ⟨HP.out, HL.out⟩, ⟨by rw [outAt_zero]; exact HI.out.below (below_alloc (Below.refl _ _) _)⟩, ⟨fun _ _ h _ => h⟩⟩
    case round =>
      clear b0 b1 hcg hch
      obtain ⟨k, v1, all1, rfl, HK, HA, HJ, HF⟩ := hrel
      have hJ := HJ.out
      have hcl : wr.heap[W.heap.size]? = some (.cells #[.bool false, .bool true] 4 (0, 0)) := HF.out _ _ (blk_new W _) hLR.out
      by_cases hk : k < 2
      · have hcb : wr.cell? ⟨W.heap.size, k, none⟩ = some (.bool (k == 1)) := by
          rw [blk_cell hcl]
          obtain rfl | rfl : k = 0 ∨ k = 1 := by omega
          · rfl
          · rfl
        have HS := Aside0.mk (outAt_succ up down d pre st out k hk)
        have HN := Aside0.mk (outAt_length up down d pre st out k hk)
        have HB1 := Aside0.mk hk
        generalize hb : (k == 1) = b at *
        have HBB := Aside0.mk hb
        clear hb
        have q0 : (k : Int) < 2 := by omega
        have q1 : (0 : Int) ≤ (k : Int) := by omega
        have u0 := (blk_cell hJ.u 0).trans rfl
        have u1 := (blk_cell hJ.u 1).trans rfl
        have u2 := (blk_cell hJ.u 2).trans rfl
        have u3 := (blk_cell hJ.u 3).trans rfl
        have u4 := (blk_cell hJ.u 4).trans rfl
        have u5 := (blk_cell hJ.u 5).trans rfl
        have u6 := (blk_cell hJ.u 6).trans rfl
        have u7 := (blk_cell hJ.u 7).trans rfl
        have u8 := (blk_cell hJ.u 8).trans rfl
        clear hJ hcl
        obtain ⟨s2, is2⟩ : ∃ s2, s2 = (nxF up down st b).1 := ⟨_, rfl⟩
        rcases hn : (nxF up down st b).2 with _ | _
        · have hnx : nxF up down st b = (s2, false) := by rw [is2, ← hn]
          have HX := Aside0.mk hnx
          clear hnx hn is2
          go_wp2_with fail
          refine (unit_next.calls 3 a0_0 a0_1 A0_2 c0_2 l0_2 up down a0_5 a0_6 a0_7 a0_8 st b s2 false _ (Kd.C_below HRR.out HJ.out.b) HCC.out (by rw [next_f, HX.out])).mono ?_
          rintro e w2 ⟨rfl, hb2⟩
          have HB2 := Aside0.mk hb2
          clear hb2 u0 u1 u2 u3 u4 u5 u6 u7 u8 hcb
          go_wp2_with fail
          go_roundw
          case rel => exact ⟨k + 1, v1, all1, by go_num, ⟨by have := HB1.out; omega⟩, HA, ⟨by rw [HS.out, HX.out]; simpa using HJ.out.below HB2.out⟩, ⟨fun q cs h hq => blk_below (HF.out q cs h hq) HB2.out⟩⟩
          case measure => simp [intOf]; have := HB1.out; omega
        · have hnx : nxF up down st b = (s2, true) := by rw [is2, ← hn]
          have HX := Aside0.mk hnx
          clear hnx hn is2
          go_wp2_with fail
          refine (unit_next.calls 3 a0_0 a0_1 A0_2 c0_2 l0_2 up down a0_5 a0_6 a0_7 a0_8 st b s2 true _ (Kd.C_below HRR.out HJ.out.b) HCC.out (by rw [next_f, HX.out])).mono ?_
          rintro e w2 ⟨rfl, hb2⟩
          have HB2 := Aside0.mk hb2
          have HJ2 := Aside0.mk (HJ.out.below hb2)
          clear hb2 u0 u1 u2 u3 u4 u5 u6 u7 u8 hcb
          have r2 : w2.cell? ⟨gr, 0, none⟩ = some (.slice (some ⟨R, 0, none⟩) pre.length H) := (blk_cell HJ2.out.r 0).trans rfl
          have fr2 := blk_frozen HJ2.out.r 0
          obtain ⟨i0, hi0, hii⟩ := Option.map_eq_some_iff.1 info4
          have HI0 := Aside0.mk hi0
          have HI1 : Aside0 (i0.size = 1) := ⟨by simp only [Prod.mk.injEq] at hii; exact hii.2.1⟩
          clear hi0 hii
          have HPT := Aside0.mk (put_take all1 pre b HA.out.1 (by have := HA.out.2; have := HD.out; omega))
          obtain ⟨all2, hall2⟩ : ∃ x, x = all1.take pre.length ++ [b] ++ all1.drop (pre.length + 1) := ⟨_, rfl⟩
          go_wp2_with (first | (at_builtin; refine sched_append_room rfl (.tmp 34) (.tmp 36) 32 rfl 4 i0 Try.underlying32 HI0.out HI1.out R pre.length H (bls all1).toArray rfl (blk_alloc HJ2.out.a _) ⟨w2.heap.size, 0, none⟩ 1 (.bool b) rfl ?c1 rfl ?c2 ?c3 ?_; (case c1 => exact (blk_cell (blk_new w2 _) 0).trans rfl); (case c2 => have := HD.out; omega); (case c3 => simp [bls]; have := HA.out.2; have := HD.out; omega); rw [bls_put, ← hall2]; obtain ⟨w3, hw3⟩ : ∃ w3, w3 = (w2.alloc (.cells #[.bool b] 4)).setRow R (bls all2).toArray := ⟨_, rfl⟩; rw [← hw3]; have HJ3 := Aside0.mk (show SInv w0 w3 gu gh go gr gf R _ H pre.length all2 _ v1 by rw [hw3]; exact (HJ2.out.below (below_alloc (Below.refl _ _) _)).setR all2 HG.out.2.2); have HF3 : Aside0 (∀ q cs, w2.heap[q]? = some (.cells cs 4 (0, 0)) → q ≠ R → w3.heap[q]? = some (.cells cs 4 (0, 0))) := ⟨fun q cs h hq => by rw [hw3, setRow_other _ _ _ _ hq]; exact blk_alloc h _⟩; clear hw3; have r3 : w3.cell? ⟨gr, 0, none⟩ = some (.slice (some ⟨R, 0, none⟩) pre.length H) := (blk_cell HJ3.out.r 0).trans rfl; have fr3 := blk_frozen HJ3.out.r 0) | ((with_reducible refine gate_store (t := 32) (p := 1) rfl ?_); refine store_event (t := 32) (p := 1) (v := .tmp 37) (w1 := w3.setCell ⟨gr, 0, none⟩ (.slice (some ⟨R, 0, none⟩) (pre.length + 1) H)) ?hg rfl ?hn ?hr ?_; (case hg => rfl); (case hn => rfl); (case hr => first | (go_simp; done) | (go_simp; rfl)); intro w4 hw4; have HJ4 := Aside0.mk (show SInv w0 w4 gu gh go gr gf R _ H (pre.length + 1) all2 _ v1 by rw [hw4]; exact HJ3.out.setG (pre.length + 1) HG.out.2.1); have HF4 : Aside0 (∀ q cs, w3.heap[q]? = some (.cells cs 4 (0, 0)) → q ≠ R → w4.heap[q]? = some (.cells cs 4 (0, 0))) := ⟨fun q cs h hq => by rw [hw4, Below.heap_setCell _ _ _ _ (blk_ne h HJ3.out.r (by decide))]; exact h⟩; clear hw4; have f4 := (blk_cell HJ4.out.f 0).trans rfl))
          refine (IH.out w4 all2 _ v1 (pre ++ [b]) s2 (by rw [List.length_append, List.length_singleton]; exact HJ4.out) (by rw [hall2]; exact HPT.out.1) (by rw [hall2]; exact HPT.out.2.trans HA.out.2) (by rw [List.length_append, List.length_singleton]; have := HD.out; omega) (by have := HN.out; have := HO.out; omega)).mono ?_
          rintro e w5 ⟨rfl, v5, all5, hp5, hl5, hj5, hf5⟩
          rw [List.length_append, List.length_singleton] at hj5
          have HJ5 := Aside0.mk hj5
          have HF5 := Aside0.mk hf5
          have HA5 : Aside0 (all5.take pre.length = pre ∧ all5.length = H) := ⟨by
            refine ⟨?_, hl5⟩
            have h1 := congrArg (List.take pre.length) hp5
            rw [List.take_take, List.take_append_of_le_length (Nat.le_refl _), List.take_length] at h1
            simpa using h1⟩
          clear hj5 hf5 hp5 hl5 r2 fr2 r3 fr3 f4
          have r5 : w5.cell? ⟨gr, 0, none⟩ = some (.slice (some ⟨R, 0, none⟩) (pre.length + 1) H) := (blk_cell HJ5.out.r 0).trans rfl
          have fr5 := blk_frozen HJ5.out.r 0
          have g0 : (0 : Int) ≤ (pre.length : Int) + 1 - 1 := by omega
          have g1 : (pre.length : Int) + 1 - 1 ≤ (H : Int) := by have := HD.out; omega
          have g2 : pre.length ≤ H := by have := HD.out; omega
          have g3 : H ≤ 8 := HH.out
          go_wp2_with ((with_reducible refine gate_store (t := 32) (p := 1) rfl ?_); refine store_event (t := 32) (p := 1) (v := .tmp 45) (w1 := w5.setCell ⟨gr, 0, none⟩ (.slice (some ⟨R, 0, none⟩) pre.length H)) ?hg rfl ?hn ?hr ?_; (case hg => rfl); (case hn => rfl); (case hr => first | (go_simp; done) | (go_simp; rfl)); intro w6 hw6; have HJ6 := Aside0.mk (show SInv w0 w6 gu gh go gr gf R _ H pre.length all5 _ v5 by rw [hw6]; exact HJ5.out.setG pre.length HG.out.2.1); have HF6 : Aside0 (∀ q cs, w5.heap[q]? = some (.cells cs 4 (0, 0)) → q ≠ R → w6.heap[q]? = some (.cells cs 4 (0, 0))) := ⟨fun q cs h hq => by rw [hw6, Below.heap_setCell _ _ _ _ (blk_ne h HJ5.out.r (by decide))]; exact h⟩; clear hw6)
          go_roundw
          case rel => exact ⟨k + 1, v5, all5, by go_num, ⟨by have := HB1.out; omega⟩, HA5, ⟨by rw [HS.out, HX.out]; exact HJ6.out⟩, ⟨fun q cs h hq => HF6.out q cs (HF5.out q cs (HF4.out q cs (HF3.out q cs (blk_below (HF.out q cs h hq) HB2.out) hq) hq) hq) hq⟩⟩
          case measure => simp [intOf]; have := HB1.out; omega
      · obtain rfl : k = 2 := by have := HK.out; omega
        have q0 : ¬ ((2 : Nat) : Int) < 2 := by omega
        clear hJ hcl
        go_wp2_with fail
        first | go_end0 | (refine bodyPost_ret (results_none rfl _ _ _) rfl ?_)
        exact ⟨rfl, v1, all1, HA.out.1, HA.out.2, by rw [← outAt_two]; exact HJ.out, fun q cs h hq => HF.out q cs (blk_alloc h _) hq⟩
end Go.Proofs.Ytelklgdmhnkenaa.U
