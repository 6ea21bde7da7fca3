/-
  No cell of these rows narrows 'for every input' (looked for: loops, veiled, ifaces, maps, wideKeys, modest, calm, conditions, laid).
  DERIVED. THE GIVEN ROWS OF THIS SEAT. 13 by the template 'for every input the law returns true; each argument reads behind the call as it read before'; 0 by the template 'total and deterministic' (their statements: YtelklgdmhnkenaaTotals.lean).
  GIVEN WITH THE SEED: the statements are not yours to turn. If you find one false, say at which input.
  Laid BY PROGRAM, IN A SANDBOX (cutbox-rows.mjs): the forced cells as the released guide's own fill.sh prints them over the translation b85cf53591edf62e… (all of the seat's roots in one cut). By AI agents, Wed Nov 11 2026. No macro, syntax, notation, axiom, sorry.
-/
import Derived.Test.YtelklgdmhnkenaaChecked
import GoSem.Claim
import GoSem.ClaimJoined
import GoSem.ClaimMapViews
import Derived.JoinedTies
import Derived.KernelRfl
namespace Go.Proofs.Ytelklgdmhnkenaa
/- THE CELL 'sum', in the pinned program and in every row, IS THE sha256 OF THE DUMP (.gsa) THAT YtelklgdmhnkenaaProg.lean LOADS. Nothing in Lean hashes anything: it is a label: what it is worth is what the hold of that sum in a sandbox is worth. -/
noncomputable def Try.pinned : Pinned := { name := "ytelklgdmhnkenaa", sum := "b85cf53591edf62e6348db6939f063ef77f3522ee9dc4066cb223298965a94bc", checked := Try.checked }
namespace Rows
def none {H : Type} : Left H := { results := [], args := [] }

/-- 'pylonlaw26.UnitSchedulesMatch': WHATEVER THE INPUT: true; the input reads as it did. -/
def unitSchedulesMatchSpec : ChangeSpec := { name := "unitSchedulesMatch", fn := fun _ => fun
  | [d1, d2] => { results := [.lit (.bool true)], args := [d1, d2] }
  | _ => none }
def unitSchedulesMatchRow : OpenClaim := { program := "ytelklgdmhnkenaa", sum := "b85cf53591edf62e6348db6939f063ef77f3522ee9dc4066cb223298965a94bc", func := "pylon/pylonlaw26.UnitSchedulesMatch", spec := "unitSchedulesMatch", unfollowed := true, recurses := true, apart := false }
def UnitSchedulesMatchSaid : Prop := unitSchedulesMatchRow.holds Try.pinned (OpenSpec.ofChange unitSchedulesMatchSpec)

/-- ITS FALSE NEIGHBOUR: 'it returns false'. Refute it at one input. -/
def unitSchedulesMatchWrong : ChangeSpec := { name := "unitSchedulesMatch", fn := fun _ => fun
  | [d1, d2] => { results := [.lit (.bool false)], args := [d1, d2] }
  | _ => none }
def UnitSchedulesMatchWrongFalsely : Prop := unitSchedulesMatchRow.holds Try.pinned (OpenSpec.ofChange unitSchedulesMatchWrong)

/-- 'pylonlaw26.UnitRuns': WHATEVER THE INPUT: true; the input reads as it did. -/
def unitRunsSpec : ChangeSpec := { name := "unitRuns", fn := fun _ => fun
  | [d1, d2] => { results := [.lit (.bool true)], args := [d1, d2] }
  | _ => none }
def unitRunsRow : OpenClaim := { program := "ytelklgdmhnkenaa", sum := "b85cf53591edf62e6348db6939f063ef77f3522ee9dc4066cb223298965a94bc", func := "pylon/pylonlaw26.UnitRuns", spec := "unitRuns", unfollowed := true, recurses := true, apart := false }
def UnitRunsSaid : Prop := unitRunsRow.holds Try.pinned (OpenSpec.ofChange unitRunsSpec)

/-- ITS FALSE NEIGHBOUR: 'it returns false'. Refute it at one input. -/
def unitRunsWrong : ChangeSpec := { name := "unitRuns", fn := fun _ => fun
  | [d1, d2] => { results := [.lit (.bool false)], args := [d1, d2] }
  | _ => none }
def UnitRunsWrongFalsely : Prop := unitRunsRow.holds Try.pinned (OpenSpec.ofChange unitRunsWrong)

/-- 'pylonlaw26.UnitTransitions': WHATEVER THE INPUT: true; the input reads as it did. -/
def unitTransitionsSpec : ChangeSpec := { name := "unitTransitions", fn := fun _ => fun
  | [d1, d2] => { results := [.lit (.bool true)], args := [d1, d2] }
  | _ => none }
def unitTransitionsRow : OpenClaim := { program := "ytelklgdmhnkenaa", sum := "b85cf53591edf62e6348db6939f063ef77f3522ee9dc4066cb223298965a94bc", func := "pylon/pylonlaw26.UnitTransitions", spec := "unitTransitions", unfollowed := true, recurses := true, apart := false }
def UnitTransitionsSaid : Prop := unitTransitionsRow.holds Try.pinned (OpenSpec.ofChange unitTransitionsSpec)

/-- ITS FALSE NEIGHBOUR: 'it returns false'. Refute it at one input. -/
def unitTransitionsWrong : ChangeSpec := { name := "unitTransitions", fn := fun _ => fun
  | [d1, d2] => { results := [.lit (.bool false)], args := [d1, d2] }
  | _ => none }
def UnitTransitionsWrongFalsely : Prop := unitTransitionsRow.holds Try.pinned (OpenSpec.ofChange unitTransitionsWrong)

/-- 'pylonlaw26.UnitPrefix': WHATEVER THE INPUT: true; the input reads as it did. -/
def unitPrefixSpec : ChangeSpec := { name := "unitPrefix", fn := fun _ => fun
  | [d1, d2, d3] => { results := [.lit (.bool true)], args := [d1, d2, d3] }
  | _ => none }
def unitPrefixRow : OpenClaim := { program := "ytelklgdmhnkenaa", sum := "b85cf53591edf62e6348db6939f063ef77f3522ee9dc4066cb223298965a94bc", func := "pylon/pylonlaw26.UnitPrefix", spec := "unitPrefix", unfollowed := true, recurses := true, apart := false }
def UnitPrefixSaid : Prop := unitPrefixRow.holds Try.pinned (OpenSpec.ofChange unitPrefixSpec)

/-- ITS FALSE NEIGHBOUR: 'it returns false'. Refute it at one input. -/
def unitPrefixWrong : ChangeSpec := { name := "unitPrefix", fn := fun _ => fun
  | [d1, d2, d3] => { results := [.lit (.bool false)], args := [d1, d2, d3] }
  | _ => none }
def UnitPrefixWrongFalsely : Prop := unitPrefixRow.holds Try.pinned (OpenSpec.ofChange unitPrefixWrong)

/-- 'pylonlaw26.UnitEnumeration': WHATEVER THE INPUT: true; the input reads as it did. -/
def unitEnumerationSpec : ChangeSpec := { name := "unitEnumeration", fn := fun _ => fun
  | [d1, d2] => { results := [.lit (.bool true)], args := [d1, d2] }
  | _ => none }
def unitEnumerationRow : OpenClaim := { program := "ytelklgdmhnkenaa", sum := "b85cf53591edf62e6348db6939f063ef77f3522ee9dc4066cb223298965a94bc", func := "pylon/pylonlaw26.UnitEnumeration", spec := "unitEnumeration", unfollowed := true, recurses := true, apart := false }
def UnitEnumerationSaid : Prop := unitEnumerationRow.holds Try.pinned (OpenSpec.ofChange unitEnumerationSpec)

/-- ITS FALSE NEIGHBOUR: 'it returns false'. Refute it at one input. -/
def unitEnumerationWrong : ChangeSpec := { name := "unitEnumeration", fn := fun _ => fun
  | [d1, d2] => { results := [.lit (.bool false)], args := [d1, d2] }
  | _ => none }
def UnitEnumerationWrongFalsely : Prop := unitEnumerationRow.holds Try.pinned (OpenSpec.ofChange unitEnumerationWrong)

/-- 'pylonlaw26.UnitConcatenation': WHATEVER THE INPUT: true; the input reads as it did. -/
def unitConcatenationSpec : ChangeSpec := { name := "unitConcatenation", fn := fun _ => fun
  | [d1, d2, d3] => { results := [.lit (.bool true)], args := [d1, d2, d3] }
  | _ => none }
def unitConcatenationRow : OpenClaim := { program := "ytelklgdmhnkenaa", sum := "b85cf53591edf62e6348db6939f063ef77f3522ee9dc4066cb223298965a94bc", func := "pylon/pylonlaw26.UnitConcatenation", spec := "unitConcatenation", unfollowed := true, recurses := true, apart := false }
def UnitConcatenationSaid : Prop := unitConcatenationRow.holds Try.pinned (OpenSpec.ofChange unitConcatenationSpec)

/-- ITS FALSE NEIGHBOUR: 'it returns false'. Refute it at one input. -/
def unitConcatenationWrong : ChangeSpec := { name := "unitConcatenation", fn := fun _ => fun
  | [d1, d2, d3] => { results := [.lit (.bool false)], args := [d1, d2, d3] }
  | _ => none }
def UnitConcatenationWrongFalsely : Prop := unitConcatenationRow.holds Try.pinned (OpenSpec.ofChange unitConcatenationWrong)

/-- 'pylonlaw26.UnitSaturation': WHATEVER THE INPUT: true; the input reads as it did. -/
def unitSaturationSpec : ChangeSpec := { name := "unitSaturation", fn := fun _ => fun
  | [d1, d2] => { results := [.lit (.bool true)], args := [d1, d2] }
  | _ => none }
def unitSaturationRow : OpenClaim := { program := "ytelklgdmhnkenaa", sum := "b85cf53591edf62e6348db6939f063ef77f3522ee9dc4066cb223298965a94bc", func := "pylon/pylonlaw26.UnitSaturation", spec := "unitSaturation", unfollowed := true, recurses := true, apart := false }
def UnitSaturationSaid : Prop := unitSaturationRow.holds Try.pinned (OpenSpec.ofChange unitSaturationSpec)

/-- ITS FALSE NEIGHBOUR: 'it returns false'. Refute it at one input. -/
def unitSaturationWrong : ChangeSpec := { name := "unitSaturation", fn := fun _ => fun
  | [d1, d2] => { results := [.lit (.bool false)], args := [d1, d2] }
  | _ => none }
def UnitSaturationWrongFalsely : Prop := unitSaturationRow.holds Try.pinned (OpenSpec.ofChange unitSaturationWrong)

/-- 'pylonlaw28.EnergyOptimality': WHATEVER THE INPUT: true; the input reads as it did. -/
def energyOptimalitySpec : ChangeSpec := { name := "energyOptimality", fn := fun _ => fun
  | [d1, d2, d3] => { results := [.lit (.bool true)], args := [d1, d2, d3] }
  | _ => none }
def energyOptimalityRow : OpenClaim := { program := "ytelklgdmhnkenaa", sum := "b85cf53591edf62e6348db6939f063ef77f3522ee9dc4066cb223298965a94bc", func := "pylon/pylonlaw28.EnergyOptimality", spec := "energyOptimality", unfollowed := true, recurses := true, apart := false }
def EnergyOptimalitySaid : Prop := energyOptimalityRow.holds Try.pinned (OpenSpec.ofChange energyOptimalitySpec)

/-- ITS FALSE NEIGHBOUR: 'it returns false'. Refute it at one input. -/
def energyOptimalityWrong : ChangeSpec := { name := "energyOptimality", fn := fun _ => fun
  | [d1, d2, d3] => { results := [.lit (.bool false)], args := [d1, d2, d3] }
  | _ => none }
def EnergyOptimalityWrongFalsely : Prop := energyOptimalityRow.holds Try.pinned (OpenSpec.ofChange energyOptimalityWrong)

/-- 'pylonlaw28.EnergyExchange': WHATEVER THE INPUT: true; the input reads as it did. -/
def energyExchangeSpec : ChangeSpec := { name := "energyExchange", fn := fun _ => fun
  | [d1, d2, d3, d4, d5] => { results := [.lit (.bool true)], args := [d1, d2, d3, d4, d5] }
  | _ => none }
def energyExchangeRow : OpenClaim := { program := "ytelklgdmhnkenaa", sum := "b85cf53591edf62e6348db6939f063ef77f3522ee9dc4066cb223298965a94bc", func := "pylon/pylonlaw28.EnergyExchange", spec := "energyExchange", unfollowed := true, recurses := true, apart := false }
def EnergyExchangeSaid : Prop := energyExchangeRow.holds Try.pinned (OpenSpec.ofChange energyExchangeSpec)

/-- ITS FALSE NEIGHBOUR: 'it returns false'. Refute it at one input. -/
def energyExchangeWrong : ChangeSpec := { name := "energyExchange", fn := fun _ => fun
  | [d1, d2, d3, d4, d5] => { results := [.lit (.bool false)], args := [d1, d2, d3, d4, d5] }
  | _ => none }
def EnergyExchangeWrongFalsely : Prop := energyExchangeRow.holds Try.pinned (OpenSpec.ofChange energyExchangeWrong)

/-- 'pylonlaw28.EnergyConvexity': WHATEVER THE INPUT: true; the input reads as it did. -/
def energyConvexitySpec : ChangeSpec := { name := "energyConvexity", fn := fun _ => fun
  | [d1, d2, d3] => { results := [.lit (.bool true)], args := [d1, d2, d3] }
  | _ => none }
def energyConvexityRow : OpenClaim := { program := "ytelklgdmhnkenaa", sum := "b85cf53591edf62e6348db6939f063ef77f3522ee9dc4066cb223298965a94bc", func := "pylon/pylonlaw28.EnergyConvexity", spec := "energyConvexity", unfollowed := true, recurses := true, apart := false }
def EnergyConvexitySaid : Prop := energyConvexityRow.holds Try.pinned (OpenSpec.ofChange energyConvexitySpec)

/-- ITS FALSE NEIGHBOUR: 'it returns false'. Refute it at one input. -/
def energyConvexityWrong : ChangeSpec := { name := "energyConvexity", fn := fun _ => fun
  | [d1, d2, d3] => { results := [.lit (.bool false)], args := [d1, d2, d3] }
  | _ => none }
def EnergyConvexityWrongFalsely : Prop := energyConvexityRow.holds Try.pinned (OpenSpec.ofChange energyConvexityWrong)

/-- 'pylonlaw28.EnergyUnitsOff': WHATEVER THE INPUT: true; the input reads as it did. -/
def energyUnitsOffSpec : ChangeSpec := { name := "energyUnitsOff", fn := fun _ => fun
  | [d1, d2, d3, d4, d5] => { results := [.lit (.bool true)], args := [d1, d2, d3, d4, d5] }
  | _ => none }
def energyUnitsOffRow : OpenClaim := { program := "ytelklgdmhnkenaa", sum := "b85cf53591edf62e6348db6939f063ef77f3522ee9dc4066cb223298965a94bc", func := "pylon/pylonlaw28.EnergyUnitsOff", spec := "energyUnitsOff", unfollowed := true, recurses := true, apart := false }
def EnergyUnitsOffSaid : Prop := energyUnitsOffRow.holds Try.pinned (OpenSpec.ofChange energyUnitsOffSpec)

/-- ITS FALSE NEIGHBOUR: 'it returns false'. Refute it at one input. -/
def energyUnitsOffWrong : ChangeSpec := { name := "energyUnitsOff", fn := fun _ => fun
  | [d1, d2, d3, d4, d5] => { results := [.lit (.bool false)], args := [d1, d2, d3, d4, d5] }
  | _ => none }
def EnergyUnitsOffWrongFalsely : Prop := energyUnitsOffRow.holds Try.pinned (OpenSpec.ofChange energyUnitsOffWrong)

/-- 'pylonlaw28.EnergyPermutation': WHATEVER THE INPUT: true; the input reads as it did. -/
def energyPermutationSpec : ChangeSpec := { name := "energyPermutation", fn := fun _ => fun
  | [d1, d2, d3, d4, d5] => { results := [.lit (.bool true)], args := [d1, d2, d3, d4, d5] }
  | _ => none }
def energyPermutationRow : OpenClaim := { program := "ytelklgdmhnkenaa", sum := "b85cf53591edf62e6348db6939f063ef77f3522ee9dc4066cb223298965a94bc", func := "pylon/pylonlaw28.EnergyPermutation", spec := "energyPermutation", unfollowed := true, recurses := true, apart := false }
def EnergyPermutationSaid : Prop := energyPermutationRow.holds Try.pinned (OpenSpec.ofChange energyPermutationSpec)

/-- ITS FALSE NEIGHBOUR: 'it returns false'. Refute it at one input. -/
def energyPermutationWrong : ChangeSpec := { name := "energyPermutation", fn := fun _ => fun
  | [d1, d2, d3, d4, d5] => { results := [.lit (.bool false)], args := [d1, d2, d3, d4, d5] }
  | _ => none }
def EnergyPermutationWrongFalsely : Prop := energyPermutationRow.holds Try.pinned (OpenSpec.ofChange energyPermutationWrong)

/-- 'pylonlaw28.EnergySingleUnit': WHATEVER THE INPUT: true; the input reads as it did. -/
def energySingleUnitSpec : ChangeSpec := { name := "energySingleUnit", fn := fun _ => fun
  | [d1, d2] => { results := [.lit (.bool true)], args := [d1, d2] }
  | _ => none }
def energySingleUnitRow : OpenClaim := { program := "ytelklgdmhnkenaa", sum := "b85cf53591edf62e6348db6939f063ef77f3522ee9dc4066cb223298965a94bc", func := "pylon/pylonlaw28.EnergySingleUnit", spec := "energySingleUnit", unfollowed := true, recurses := true, apart := false }
def EnergySingleUnitSaid : Prop := energySingleUnitRow.holds Try.pinned (OpenSpec.ofChange energySingleUnitSpec)

/-- ITS FALSE NEIGHBOUR: 'it returns false'. Refute it at one input. -/
def energySingleUnitWrong : ChangeSpec := { name := "energySingleUnit", fn := fun _ => fun
  | [d1, d2] => { results := [.lit (.bool false)], args := [d1, d2] }
  | _ => none }
def EnergySingleUnitWrongFalsely : Prop := energySingleUnitRow.holds Try.pinned (OpenSpec.ofChange energySingleUnitWrong)

/- THE SECOND FORM. 'bulk': how many values and letters a reading holds, each counted each time it is reached (what is shared counts as often as it is met; a slice's spare places count too). A statement '..UptoSaid' is the law's where the arguments, and the package variables that the reading takes, are together of bulk at most 1048576: NARROWER than '..Said'. Prove '..Said' where nothing that the law and all that it calls make is longer than what came in: it says more and counts as full. Else prove '..UptoSaid'. A law counts once. -/
mutual
def uptoBulk {H : Type} : DataW H → Nat
  | .lit (.string bytes) => bytes.length + 1
  | .lit _ => 1
  | .nil => 1
  | .ptr d => uptoBulk d + 1
  | .slice elems spare => uptoBulkAll elems + uptoBulkAll spare + 1
  | .agg parts => uptoBulkAll parts + 1
  | .iface _ d => uptoBulk d + 1
  | .map entries => uptoBulkEntries entries + 1
  | .held _ => 1
def uptoBulkAll {H : Type} : List (DataW H) → Nat
  | [] => 0
  | d :: r => uptoBulk d + uptoBulkAll r
def uptoBulkEntries {H : Type} : List (Lit × DataW H) → Nat
  | [] => 0
  | x :: r => uptoBulkEntry x + uptoBulkEntries r
def uptoBulkEntry {H : Type} : Lit × DataW H → Nat
  | (.string bytes, d) => bytes.length + uptoBulk d + 1
  | (_, d) => uptoBulk d + 1
 end
def uptoSmall : (H : Type) → List (DataW H) → Bool := fun _ ds => decide (uptoBulkAll ds ≤ 1048576)
def OpenSpec.upto (s : _root_.Go.ChangeSpec) : _root_.Go.OpenSpec := { _root_.Go.OpenSpec.ofChange s with cond := some uptoSmall }

/-- 'pylonlaw26.UnitSchedulesMatch', WHERE WHAT IT READS IS OF BULK AT MOST 1048576: true; the input reads as it did. -/
def unitSchedulesMatchUptoRow : OpenClaim := { program := "ytelklgdmhnkenaa", sum := "b85cf53591edf62e6348db6939f063ef77f3522ee9dc4066cb223298965a94bc", func := "pylon/pylonlaw26.UnitSchedulesMatch", spec := "unitSchedulesMatch", unfollowed := true, recurses := true, apart := false, narrowed := true }
def UnitSchedulesMatchUptoSaid : Prop := unitSchedulesMatchUptoRow.holds Try.pinned (OpenSpec.upto unitSchedulesMatchSpec)

/-- 'pylonlaw26.UnitRuns', WHERE WHAT IT READS IS OF BULK AT MOST 1048576: true; the input reads as it did. -/
def unitRunsUptoRow : OpenClaim := { program := "ytelklgdmhnkenaa", sum := "b85cf53591edf62e6348db6939f063ef77f3522ee9dc4066cb223298965a94bc", func := "pylon/pylonlaw26.UnitRuns", spec := "unitRuns", unfollowed := true, recurses := true, apart := false, narrowed := true }
def UnitRunsUptoSaid : Prop := unitRunsUptoRow.holds Try.pinned (OpenSpec.upto unitRunsSpec)

/-- 'pylonlaw26.UnitTransitions', WHERE WHAT IT READS IS OF BULK AT MOST 1048576: true; the input reads as it did. -/
def unitTransitionsUptoRow : OpenClaim := { program := "ytelklgdmhnkenaa", sum := "b85cf53591edf62e6348db6939f063ef77f3522ee9dc4066cb223298965a94bc", func := "pylon/pylonlaw26.UnitTransitions", spec := "unitTransitions", unfollowed := true, recurses := true, apart := false, narrowed := true }
def UnitTransitionsUptoSaid : Prop := unitTransitionsUptoRow.holds Try.pinned (OpenSpec.upto unitTransitionsSpec)

/-- 'pylonlaw26.UnitPrefix', WHERE WHAT IT READS IS OF BULK AT MOST 1048576: true; the input reads as it did. -/
def unitPrefixUptoRow : OpenClaim := { program := "ytelklgdmhnkenaa", sum := "b85cf53591edf62e6348db6939f063ef77f3522ee9dc4066cb223298965a94bc", func := "pylon/pylonlaw26.UnitPrefix", spec := "unitPrefix", unfollowed := true, recurses := true, apart := false, narrowed := true }
def UnitPrefixUptoSaid : Prop := unitPrefixUptoRow.holds Try.pinned (OpenSpec.upto unitPrefixSpec)

/-- 'pylonlaw26.UnitEnumeration', WHERE WHAT IT READS IS OF BULK AT MOST 1048576: true; the input reads as it did. -/
def unitEnumerationUptoRow : OpenClaim := { program := "ytelklgdmhnkenaa", sum := "b85cf53591edf62e6348db6939f063ef77f3522ee9dc4066cb223298965a94bc", func := "pylon/pylonlaw26.UnitEnumeration", spec := "unitEnumeration", unfollowed := true, recurses := true, apart := false, narrowed := true }
def UnitEnumerationUptoSaid : Prop := unitEnumerationUptoRow.holds Try.pinned (OpenSpec.upto unitEnumerationSpec)

/-- 'pylonlaw26.UnitConcatenation', WHERE WHAT IT READS IS OF BULK AT MOST 1048576: true; the input reads as it did. -/
def unitConcatenationUptoRow : OpenClaim := { program := "ytelklgdmhnkenaa", sum := "b85cf53591edf62e6348db6939f063ef77f3522ee9dc4066cb223298965a94bc", func := "pylon/pylonlaw26.UnitConcatenation", spec := "unitConcatenation", unfollowed := true, recurses := true, apart := false, narrowed := true }
def UnitConcatenationUptoSaid : Prop := unitConcatenationUptoRow.holds Try.pinned (OpenSpec.upto unitConcatenationSpec)

/-- 'pylonlaw26.UnitSaturation', WHERE WHAT IT READS IS OF BULK AT MOST 1048576: true; the input reads as it did. -/
def unitSaturationUptoRow : OpenClaim := { program := "ytelklgdmhnkenaa", sum := "b85cf53591edf62e6348db6939f063ef77f3522ee9dc4066cb223298965a94bc", func := "pylon/pylonlaw26.UnitSaturation", spec := "unitSaturation", unfollowed := true, recurses := true, apart := false, narrowed := true }
def UnitSaturationUptoSaid : Prop := unitSaturationUptoRow.holds Try.pinned (OpenSpec.upto unitSaturationSpec)

/-- 'pylonlaw28.EnergyOptimality', WHERE WHAT IT READS IS OF BULK AT MOST 1048576: true; the input reads as it did. -/
def energyOptimalityUptoRow : OpenClaim := { program := "ytelklgdmhnkenaa", sum := "b85cf53591edf62e6348db6939f063ef77f3522ee9dc4066cb223298965a94bc", func := "pylon/pylonlaw28.EnergyOptimality", spec := "energyOptimality", unfollowed := true, recurses := true, apart := false, narrowed := true }
def EnergyOptimalityUptoSaid : Prop := energyOptimalityUptoRow.holds Try.pinned (OpenSpec.upto energyOptimalitySpec)

/-- 'pylonlaw28.EnergyExchange', WHERE WHAT IT READS IS OF BULK AT MOST 1048576: true; the input reads as it did. -/
def energyExchangeUptoRow : OpenClaim := { program := "ytelklgdmhnkenaa", sum := "b85cf53591edf62e6348db6939f063ef77f3522ee9dc4066cb223298965a94bc", func := "pylon/pylonlaw28.EnergyExchange", spec := "energyExchange", unfollowed := true, recurses := true, apart := false, narrowed := true }
def EnergyExchangeUptoSaid : Prop := energyExchangeUptoRow.holds Try.pinned (OpenSpec.upto energyExchangeSpec)

/-- 'pylonlaw28.EnergyConvexity', WHERE WHAT IT READS IS OF BULK AT MOST 1048576: true; the input reads as it did. -/
def energyConvexityUptoRow : OpenClaim := { program := "ytelklgdmhnkenaa", sum := "b85cf53591edf62e6348db6939f063ef77f3522ee9dc4066cb223298965a94bc", func := "pylon/pylonlaw28.EnergyConvexity", spec := "energyConvexity", unfollowed := true, recurses := true, apart := false, narrowed := true }
def EnergyConvexityUptoSaid : Prop := energyConvexityUptoRow.holds Try.pinned (OpenSpec.upto energyConvexitySpec)

/-- 'pylonlaw28.EnergyUnitsOff', WHERE WHAT IT READS IS OF BULK AT MOST 1048576: true; the input reads as it did. -/
def energyUnitsOffUptoRow : OpenClaim := { program := "ytelklgdmhnkenaa", sum := "b85cf53591edf62e6348db6939f063ef77f3522ee9dc4066cb223298965a94bc", func := "pylon/pylonlaw28.EnergyUnitsOff", spec := "energyUnitsOff", unfollowed := true, recurses := true, apart := false, narrowed := true }
def EnergyUnitsOffUptoSaid : Prop := energyUnitsOffUptoRow.holds Try.pinned (OpenSpec.upto energyUnitsOffSpec)

/-- 'pylonlaw28.EnergyPermutation', WHERE WHAT IT READS IS OF BULK AT MOST 1048576: true; the input reads as it did. -/
def energyPermutationUptoRow : OpenClaim := { program := "ytelklgdmhnkenaa", sum := "b85cf53591edf62e6348db6939f063ef77f3522ee9dc4066cb223298965a94bc", func := "pylon/pylonlaw28.EnergyPermutation", spec := "energyPermutation", unfollowed := true, recurses := true, apart := false, narrowed := true }
def EnergyPermutationUptoSaid : Prop := energyPermutationUptoRow.holds Try.pinned (OpenSpec.upto energyPermutationSpec)

/-- 'pylonlaw28.EnergySingleUnit', WHERE WHAT IT READS IS OF BULK AT MOST 1048576: true; the input reads as it did. -/
def energySingleUnitUptoRow : OpenClaim := { program := "ytelklgdmhnkenaa", sum := "b85cf53591edf62e6348db6939f063ef77f3522ee9dc4066cb223298965a94bc", func := "pylon/pylonlaw28.EnergySingleUnit", spec := "energySingleUnit", unfollowed := true, recurses := true, apart := false, narrowed := true }
def EnergySingleUnitUptoSaid : Prop := energySingleUnitUptoRow.holds Try.pinned (OpenSpec.upto energySingleUnitSpec)

end Rows
end Go.Proofs.Ytelklgdmhnkenaa
