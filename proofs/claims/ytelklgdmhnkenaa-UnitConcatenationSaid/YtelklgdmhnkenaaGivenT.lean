/- Steps of a region that draws its order, taken in the order in which they are written: the number of the step is told by what is left. -/
import Derived.Test.YtelklgdmhnkenaaWInvWords
import Derived.Test.YtelklgdmhnkenaaWMore
namespace Go.Proofs.Ytelklgdmhnkenaa.U
open Go.RowKit Go.Proofs.YtelklgdmhnkenaaW.PrintWords Go.Proofs.YtelklgdmhnkenaaW.PrintLast Go.Proofs.YtelklgdmhnkenaaW.PrintMore
/-- All but f of n are listed. -/
def pbn (n f : Nat) : Array Bool := (List.replicate (n - f) true ++ List.replicate f false).toArray
section
variable {P : Program} {ops : Array Oper} {Q : Exit → Act → World → Prop} {md : Region.Mode} {S : World → Prop} {ds : List Nat}
theorem pureAt {n f i : Nat} {t : Tmp} {oi : Oper} {v : Value} {a : Act} {w : World} (hif : i + (f + 1) = n) (hi : ops[i]? = some oi) (hN : oi.dst = some t) (hc : anyB md ops (pbn n (f + 1)) (pbn n f) i = true)
    (hQ : ∀ c a w, Q (.panic c) (a.put oi.dst v) w → Q (.panic c) a w) (hy : Yields P ops oi v a) {a' : Act} (ha : a.put (some t) v = a')
    (h : wpAnyLast P md ops Q S ds f (pbn n f) a' w) : wpAnyLast P md ops Q S ds (f + 1) (pbn n (f + 1)) a w := pure_ _ hi hN hc hQ hy ha h
theorem takeAt {n f i : Nat} {t : Tmp} {oi : Oper} {v : Value} {a : Act} {w : World} (hif : i + (f + 1) = n) (hi : ops[i]? = some oi) (hN : oi.dst = some t) (hc : takeB md ops ds (pbn n (f + 1)) (pbn n f) i = true)
    (hQ : ∀ c a w, Q (.panic c) (a.put oi.dst v) w → Q (.panic c) a w) (hy : YieldsIf P ops S oi v a) (hS : S w) {a' : Act} (ha : a.put (some t) v = a')
    (h : wpAnyLast P md ops Q S ds f (pbn n f) a' w) : wpAnyLast P md ops Q S ds (f + 1) (pbn n (f + 1)) a w := take_ _ hi hN hc hQ hy hS ha h
end
end Go.Proofs.Ytelklgdmhnkenaa.U
