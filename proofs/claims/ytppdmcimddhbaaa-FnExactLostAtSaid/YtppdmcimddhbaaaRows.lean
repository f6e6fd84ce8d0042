/-
  No cell of these rows narrows 'for every input' (looked for: loops, veiled, ifaces, maps, wideKeys, modest, calm, conditions, laid).
  DERIVED. THE GIVEN ROWS OF THIS SEAT. 11 by the template 'for every input the law returns true; each argument reads behind the call as it read before'; 0 by the template 'total and deterministic' (their statements: YtppdmcimddhbaaaTotals.lean).
  GIVEN WITH THE SEED: the statements are not yours to turn. If you find one false, say at which input.
  Laid BY PROGRAM, IN A SANDBOX (cutbox-rows.mjs): the forced cells as the released guide's own fill.sh prints them over the translation e66e9bf9a5516939… (all of the seat's roots in one cut). By AI agents, Wed Nov 11 2026. No macro, syntax, notation, axiom, sorry.
-/
import Derived.Test.YtppdmcimddhbaaaChecked
import GoSem.Claim
import GoSem.ClaimJoined
import GoSem.ClaimMapViews
import Derived.JoinedTies
import Derived.KernelRfl
namespace Go.Proofs.Ytppdmcimddhbaaa
/- THE CELL 'sum', in the pinned program and in every row, IS THE sha256 OF THE DUMP (.gsa) THAT YtppdmcimddhbaaaProg.lean LOADS. Nothing in Lean hashes anything: it is a label: what it is worth is what the hold of that sum in a sandbox is worth. -/
noncomputable def Try.pinned : Pinned := { name := "ytppdmcimddhbaaa", sum := "e66e9bf9a5516939a4ea9ba81ee4098e83af215221f5198f61f236aff850e93c", checked := Try.checked }
namespace Rows
def none {H : Type} : Left H := { results := [], args := [] }

/-- 'laws.FnLeans': WHATEVER THE INPUT: true; the input reads as it did. -/
def fnLeansSpec : ChangeSpec := { name := "fnLeans", fn := fun _ => fun
  | [d] => { results := [.lit (.bool true)], args := [d] }
  | _ => none }
def fnLeansRow : OpenClaim := { program := "ytppdmcimddhbaaa", sum := "e66e9bf9a5516939a4ea9ba81ee4098e83af215221f5198f61f236aff850e93c", func := "loop.example/g00474/laws.FnLeans", spec := "fnLeans", unfollowed := true, recurses := true, apart := false }
def FnLeansSaid : Prop := fnLeansRow.holds Try.pinned (OpenSpec.ofChange fnLeansSpec)

/-- ITS FALSE NEIGHBOUR: 'it returns false'. Refute it at one input. -/
def fnLeansWrong : ChangeSpec := { name := "fnLeans", fn := fun _ => fun
  | [d] => { results := [.lit (.bool false)], args := [d] }
  | _ => none }
def FnLeansWrongFalsely : Prop := fnLeansRow.holds Try.pinned (OpenSpec.ofChange fnLeansWrong)

/-- 'laws.FnExactDeepOfProof': WHATEVER THE INPUT: true; the input reads as it did. -/
def fnExactDeepOfProofSpec : ChangeSpec := { name := "fnExactDeepOfProof", fn := fun _ => fun
  | [d] => { results := [.lit (.bool true)], args := [d] }
  | _ => none }
def fnExactDeepOfProofRow : OpenClaim := { program := "ytppdmcimddhbaaa", sum := "e66e9bf9a5516939a4ea9ba81ee4098e83af215221f5198f61f236aff850e93c", func := "loop.example/g00474/laws.FnExactDeepOfProof", spec := "fnExactDeepOfProof", apart := false }
def FnExactDeepOfProofSaid : Prop := fnExactDeepOfProofRow.holds Try.pinned (OpenSpec.ofChange fnExactDeepOfProofSpec)

/-- ITS FALSE NEIGHBOUR: 'it returns false'. Refute it at one input. -/
def fnExactDeepOfProofWrong : ChangeSpec := { name := "fnExactDeepOfProof", fn := fun _ => fun
  | [d] => { results := [.lit (.bool false)], args := [d] }
  | _ => none }
def FnExactDeepOfProofWrongFalsely : Prop := fnExactDeepOfProofRow.holds Try.pinned (OpenSpec.ofChange fnExactDeepOfProofWrong)

/-- 'laws.FnExactTreeSize': WHATEVER THE INPUT: true; the input reads as it did. -/
def fnExactTreeSizeSpec : ChangeSpec := { name := "fnExactTreeSize", fn := fun _ => fun
  | [d1, d2] => { results := [.lit (.bool true)], args := [d1, d2] }
  | _ => none }
def fnExactTreeSizeRow : OpenClaim := { program := "ytppdmcimddhbaaa", sum := "e66e9bf9a5516939a4ea9ba81ee4098e83af215221f5198f61f236aff850e93c", func := "loop.example/g00474/laws.FnExactTreeSize", spec := "fnExactTreeSize", apart := false }
def FnExactTreeSizeSaid : Prop := fnExactTreeSizeRow.holds Try.pinned (OpenSpec.ofChange fnExactTreeSizeSpec)

/-- ITS FALSE NEIGHBOUR: 'it returns false'. Refute it at one input. -/
def fnExactTreeSizeWrong : ChangeSpec := { name := "fnExactTreeSize", fn := fun _ => fun
  | [d1, d2] => { results := [.lit (.bool false)], args := [d1, d2] }
  | _ => none }
def FnExactTreeSizeWrongFalsely : Prop := fnExactTreeSizeRow.holds Try.pinned (OpenSpec.ofChange fnExactTreeSizeWrong)

/-- 'laws.FnExactLastDay': WHATEVER THE INPUT: true; the input reads as it did. -/
def fnExactLastDaySpec : ChangeSpec := { name := "fnExactLastDay", fn := fun _ => fun
  | [d1, d2, d3] => { results := [.lit (.bool true)], args := [d1, d2, d3] }
  | _ => none }
def fnExactLastDayRow : OpenClaim := { program := "ytppdmcimddhbaaa", sum := "e66e9bf9a5516939a4ea9ba81ee4098e83af215221f5198f61f236aff850e93c", func := "loop.example/g00474/laws.FnExactLastDay", spec := "fnExactLastDay", unfollowed := true, recurses := true, apart := false }
def FnExactLastDaySaid : Prop := fnExactLastDayRow.holds Try.pinned (OpenSpec.ofChange fnExactLastDaySpec)

/-- ITS FALSE NEIGHBOUR: 'it returns false'. Refute it at one input. -/
def fnExactLastDayWrong : ChangeSpec := { name := "fnExactLastDay", fn := fun _ => fun
  | [d1, d2, d3] => { results := [.lit (.bool false)], args := [d1, d2, d3] }
  | _ => none }
def FnExactLastDayWrongFalsely : Prop := fnExactLastDayRow.holds Try.pinned (OpenSpec.ofChange fnExactLastDayWrong)

/-- 'laws.FnPolicies': WHATEVER THE INPUT: true; the input reads as it did. -/
def fnPoliciesSpec : ChangeSpec := { name := "fnPolicies", fn := fun _ => fun
  | [d] => { results := [.lit (.bool true)], args := [d] }
  | _ => none }
def fnPoliciesRow : OpenClaim := { program := "ytppdmcimddhbaaa", sum := "e66e9bf9a5516939a4ea9ba81ee4098e83af215221f5198f61f236aff850e93c", func := "loop.example/g00474/laws.FnPolicies", spec := "fnPolicies", unfollowed := true, recurses := true, apart := false }
def FnPoliciesSaid : Prop := fnPoliciesRow.holds Try.pinned (OpenSpec.ofChange fnPoliciesSpec)

/-- ITS FALSE NEIGHBOUR: 'it returns false'. Refute it at one input. -/
def fnPoliciesWrong : ChangeSpec := { name := "fnPolicies", fn := fun _ => fun
  | [d] => { results := [.lit (.bool false)], args := [d] }
  | _ => none }
def FnPoliciesWrongFalsely : Prop := fnPoliciesRow.holds Try.pinned (OpenSpec.ofChange fnPoliciesWrong)

/-- 'laws.FnExactStillAt': WHATEVER THE INPUT: true; the input reads as it did. -/
def fnExactStillAtSpec : ChangeSpec := { name := "fnExactStillAt", fn := fun _ => fun
  | [d1, d2] => { results := [.lit (.bool true)], args := [d1, d2] }
  | _ => none }
def fnExactStillAtRow : OpenClaim := { program := "ytppdmcimddhbaaa", sum := "e66e9bf9a5516939a4ea9ba81ee4098e83af215221f5198f61f236aff850e93c", func := "loop.example/g00474/laws.FnExactStillAt", spec := "fnExactStillAt", unfollowed := true, recurses := true, apart := false }
def FnExactStillAtSaid : Prop := fnExactStillAtRow.holds Try.pinned (OpenSpec.ofChange fnExactStillAtSpec)

/-- ITS FALSE NEIGHBOUR: 'it returns false'. Refute it at one input. -/
def fnExactStillAtWrong : ChangeSpec := { name := "fnExactStillAt", fn := fun _ => fun
  | [d1, d2] => { results := [.lit (.bool false)], args := [d1, d2] }
  | _ => none }
def FnExactStillAtWrongFalsely : Prop := fnExactStillAtRow.holds Try.pinned (OpenSpec.ofChange fnExactStillAtWrong)

/-- 'laws.FnExactCritical': WHATEVER THE INPUT: true; the input reads as it did. -/
def fnExactCriticalSpec : ChangeSpec := { name := "fnExactCritical", fn := fun _ => fun
  | [d1, d2, d3] => { results := [.lit (.bool true)], args := [d1, d2, d3] }
  | _ => none }
def fnExactCriticalRow : OpenClaim := { program := "ytppdmcimddhbaaa", sum := "e66e9bf9a5516939a4ea9ba81ee4098e83af215221f5198f61f236aff850e93c", func := "loop.example/g00474/laws.FnExactCritical", spec := "fnExactCritical", unfollowed := true, recurses := true, apart := false }
def FnExactCriticalSaid : Prop := fnExactCriticalRow.holds Try.pinned (OpenSpec.ofChange fnExactCriticalSpec)

/-- ITS FALSE NEIGHBOUR: 'it returns false'. Refute it at one input. -/
def fnExactCriticalWrong : ChangeSpec := { name := "fnExactCritical", fn := fun _ => fun
  | [d1, d2, d3] => { results := [.lit (.bool false)], args := [d1, d2, d3] }
  | _ => none }
def FnExactCriticalWrongFalsely : Prop := fnExactCriticalRow.holds Try.pinned (OpenSpec.ofChange fnExactCriticalWrong)

/-- 'laws.FnExactLostAt': WHATEVER THE INPUT: true; the input reads as it did. -/
def fnExactLostAtSpec : ChangeSpec := { name := "fnExactLostAt", fn := fun _ => fun
  | [d1, d2] => { results := [.lit (.bool true)], args := [d1, d2] }
  | _ => none }
def fnExactLostAtRow : OpenClaim := { program := "ytppdmcimddhbaaa", sum := "e66e9bf9a5516939a4ea9ba81ee4098e83af215221f5198f61f236aff850e93c", func := "loop.example/g00474/laws.FnExactLostAt", spec := "fnExactLostAt", unfollowed := true, recurses := true, apart := false }
def FnExactLostAtSaid : Prop := fnExactLostAtRow.holds Try.pinned (OpenSpec.ofChange fnExactLostAtSpec)

/-- ITS FALSE NEIGHBOUR: 'it returns false'. Refute it at one input. -/
def fnExactLostAtWrong : ChangeSpec := { name := "fnExactLostAt", fn := fun _ => fun
  | [d1, d2] => { results := [.lit (.bool false)], args := [d1, d2] }
  | _ => none }
def FnExactLostAtWrongFalsely : Prop := fnExactLostAtRow.holds Try.pinned (OpenSpec.ofChange fnExactLostAtWrong)

/-- 'laws.FnExactDecides': WHATEVER THE INPUT: true; the input reads as it did. -/
def fnExactDecidesSpec : ChangeSpec := { name := "fnExactDecides", fn := fun _ => fun
  | [d1, d2, d3] => { results := [.lit (.bool true)], args := [d1, d2, d3] }
  | _ => none }
def fnExactDecidesRow : OpenClaim := { program := "ytppdmcimddhbaaa", sum := "e66e9bf9a5516939a4ea9ba81ee4098e83af215221f5198f61f236aff850e93c", func := "loop.example/g00474/laws.FnExactDecides", spec := "fnExactDecides", unfollowed := true, recurses := true, apart := false }
def FnExactDecidesSaid : Prop := fnExactDecidesRow.holds Try.pinned (OpenSpec.ofChange fnExactDecidesSpec)

/-- ITS FALSE NEIGHBOUR: 'it returns false'. Refute it at one input. -/
def fnExactDecidesWrong : ChangeSpec := { name := "fnExactDecides", fn := fun _ => fun
  | [d1, d2, d3] => { results := [.lit (.bool false)], args := [d1, d2, d3] }
  | _ => none }
def FnExactDecidesWrongFalsely : Prop := fnExactDecidesRow.holds Try.pinned (OpenSpec.ofChange fnExactDecidesWrong)

/-- 'laws.FnPoliciesNeed': WHATEVER THE INPUT: true; the input reads as it did. -/
def fnPoliciesNeedSpec : ChangeSpec := { name := "fnPoliciesNeed", fn := fun _ => fun
  | [d] => { results := [.lit (.bool true)], args := [d] }
  | _ => none }
def fnPoliciesNeedRow : OpenClaim := { program := "ytppdmcimddhbaaa", sum := "e66e9bf9a5516939a4ea9ba81ee4098e83af215221f5198f61f236aff850e93c", func := "loop.example/g00474/laws.FnPoliciesNeed", spec := "fnPoliciesNeed", unfollowed := true, recurses := true, apart := false }
def FnPoliciesNeedSaid : Prop := fnPoliciesNeedRow.holds Try.pinned (OpenSpec.ofChange fnPoliciesNeedSpec)

/-- ITS FALSE NEIGHBOUR: 'it returns false'. Refute it at one input. -/
def fnPoliciesNeedWrong : ChangeSpec := { name := "fnPoliciesNeed", fn := fun _ => fun
  | [d] => { results := [.lit (.bool false)], args := [d] }
  | _ => none }
def FnPoliciesNeedWrongFalsely : Prop := fnPoliciesNeedRow.holds Try.pinned (OpenSpec.ofChange fnPoliciesNeedWrong)

/-- 'laws.FnExactCostOf': WHATEVER THE INPUT: true; the input reads as it did. -/
def fnExactCostOfSpec : ChangeSpec := { name := "fnExactCostOf", fn := fun _ => fun
  | [d1, d2, d3] => { results := [.lit (.bool true)], args := [d1, d2, d3] }
  | _ => none }
def fnExactCostOfRow : OpenClaim := { program := "ytppdmcimddhbaaa", sum := "e66e9bf9a5516939a4ea9ba81ee4098e83af215221f5198f61f236aff850e93c", func := "loop.example/g00474/laws.FnExactCostOf", spec := "fnExactCostOf", unfollowed := true, recurses := true, apart := false }
def FnExactCostOfSaid : Prop := fnExactCostOfRow.holds Try.pinned (OpenSpec.ofChange fnExactCostOfSpec)

/-- ITS FALSE NEIGHBOUR: 'it returns false'. Refute it at one input. -/
def fnExactCostOfWrong : ChangeSpec := { name := "fnExactCostOf", fn := fun _ => fun
  | [d1, d2, d3] => { results := [.lit (.bool false)], args := [d1, d2, d3] }
  | _ => none }
def FnExactCostOfWrongFalsely : Prop := fnExactCostOfRow.holds Try.pinned (OpenSpec.ofChange fnExactCostOfWrong)

/- THE SECOND FORM. 'bulk': how many values and letters a reading holds, each counted each time it is reached (what is shared counts as often as it is met; a slice's spare places count too). A statement '..UptoSaid' is the law's where the arguments, and the package variables that the reading takes, are together of bulk at most 1048576: NARROWER than '..Said'. Prove '..Said' where nothing that the law and all that it calls make is longer than what came in: it says more and counts as full. Else prove '..UptoSaid'. A law counts once. -/
mutual
def uptoBulk {H : Type} : DataW H → Nat
  | .lit (.string bytes) => bytes.length + 1
  | .lit _ => 1
  | .nil => 1
  | .ptr d => uptoBulk d + 1
  | .slice elems spare => uptoBulkAll elems + uptoBulkAll spare + 1
  | .agg parts => uptoBulkAll parts + 1
  | .iface _ d => uptoBulk d + 1
  | .map entries => uptoBulkEntries entries + 1
  | .held _ => 1
def uptoBulkAll {H : Type} : List (DataW H) → Nat
  | [] => 0
  | d :: r => uptoBulk d + uptoBulkAll r
def uptoBulkEntries {H : Type} : List (Lit × DataW H) → Nat
  | [] => 0
  | x :: r => uptoBulkEntry x + uptoBulkEntries r
def uptoBulkEntry {H : Type} : Lit × DataW H → Nat
  | (.string bytes, d) => bytes.length + uptoBulk d + 1
  | (_, d) => uptoBulk d + 1
 end
def uptoSmall : (H : Type) → List (DataW H) → Bool := fun _ ds => decide (uptoBulkAll ds ≤ 1048576)
def OpenSpec.upto (s : _root_.Go.ChangeSpec) : _root_.Go.OpenSpec := { _root_.Go.OpenSpec.ofChange s with cond := some uptoSmall }

/-- 'laws.FnLeans', WHERE WHAT IT READS IS OF BULK AT MOST 1048576: true; the input reads as it did. -/
def fnLeansUptoRow : OpenClaim := { program := "ytppdmcimddhbaaa", sum := "e66e9bf9a5516939a4ea9ba81ee4098e83af215221f5198f61f236aff850e93c", func := "loop.example/g00474/laws.FnLeans", spec := "fnLeans", unfollowed := true, recurses := true, apart := false, narrowed := true }
def FnLeansUptoSaid : Prop := fnLeansUptoRow.holds Try.pinned (OpenSpec.upto fnLeansSpec)

/-- 'laws.FnExactDeepOfProof', WHERE WHAT IT READS IS OF BULK AT MOST 1048576: true; the input reads as it did. -/
def fnExactDeepOfProofUptoRow : OpenClaim := { program := "ytppdmcimddhbaaa", sum := "e66e9bf9a5516939a4ea9ba81ee4098e83af215221f5198f61f236aff850e93c", func := "loop.example/g00474/laws.FnExactDeepOfProof", spec := "fnExactDeepOfProof", apart := false, narrowed := true }
def FnExactDeepOfProofUptoSaid : Prop := fnExactDeepOfProofUptoRow.holds Try.pinned (OpenSpec.upto fnExactDeepOfProofSpec)

/-- 'laws.FnExactTreeSize', WHERE WHAT IT READS IS OF BULK AT MOST 1048576: true; the input reads as it did. -/
def fnExactTreeSizeUptoRow : OpenClaim := { program := "ytppdmcimddhbaaa", sum := "e66e9bf9a5516939a4ea9ba81ee4098e83af215221f5198f61f236aff850e93c", func := "loop.example/g00474/laws.FnExactTreeSize", spec := "fnExactTreeSize", apart := false, narrowed := true }
def FnExactTreeSizeUptoSaid : Prop := fnExactTreeSizeUptoRow.holds Try.pinned (OpenSpec.upto fnExactTreeSizeSpec)

/-- 'laws.FnExactLastDay', WHERE WHAT IT READS IS OF BULK AT MOST 1048576: true; the input reads as it did. -/
def fnExactLastDayUptoRow : OpenClaim := { program := "ytppdmcimddhbaaa", sum := "e66e9bf9a5516939a4ea9ba81ee4098e83af215221f5198f61f236aff850e93c", func := "loop.example/g00474/laws.FnExactLastDay", spec := "fnExactLastDay", unfollowed := true, recurses := true, apart := false, narrowed := true }
def FnExactLastDayUptoSaid : Prop := fnExactLastDayUptoRow.holds Try.pinned (OpenSpec.upto fnExactLastDaySpec)

/-- 'laws.FnPolicies', WHERE WHAT IT READS IS OF BULK AT MOST 1048576: true; the input reads as it did. -/
def fnPoliciesUptoRow : OpenClaim := { program := "ytppdmcimddhbaaa", sum := "e66e9bf9a5516939a4ea9ba81ee4098e83af215221f5198f61f236aff850e93c", func := "loop.example/g00474/laws.FnPolicies", spec := "fnPolicies", unfollowed := true, recurses := true, apart := false, narrowed := true }
def FnPoliciesUptoSaid : Prop := fnPoliciesUptoRow.holds Try.pinned (OpenSpec.upto fnPoliciesSpec)

/-- 'laws.FnExactStillAt', WHERE WHAT IT READS IS OF BULK AT MOST 1048576: true; the input reads as it did. -/
def fnExactStillAtUptoRow : OpenClaim := { program := "ytppdmcimddhbaaa", sum := "e66e9bf9a5516939a4ea9ba81ee4098e83af215221f5198f61f236aff850e93c", func := "loop.example/g00474/laws.FnExactStillAt", spec := "fnExactStillAt", unfollowed := true, recurses := true, apart := false, narrowed := true }
def FnExactStillAtUptoSaid : Prop := fnExactStillAtUptoRow.holds Try.pinned (OpenSpec.upto fnExactStillAtSpec)

/-- 'laws.FnExactCritical', WHERE WHAT IT READS IS OF BULK AT MOST 1048576: true; the input reads as it did. -/
def fnExactCriticalUptoRow : OpenClaim := { program := "ytppdmcimddhbaaa", sum := "e66e9bf9a5516939a4ea9ba81ee4098e83af215221f5198f61f236aff850e93c", func := "loop.example/g00474/laws.FnExactCritical", spec := "fnExactCritical", unfollowed := true, recurses := true, apart := false, narrowed := true }
def FnExactCriticalUptoSaid : Prop := fnExactCriticalUptoRow.holds Try.pinned (OpenSpec.upto fnExactCriticalSpec)

/-- 'laws.FnExactLostAt', WHERE WHAT IT READS IS OF BULK AT MOST 1048576: true; the input reads as it did. -/
def fnExactLostAtUptoRow : OpenClaim := { program := "ytppdmcimddhbaaa", sum := "e66e9bf9a5516939a4ea9ba81ee4098e83af215221f5198f61f236aff850e93c", func := "loop.example/g00474/laws.FnExactLostAt", spec := "fnExactLostAt", unfollowed := true, recurses := true, apart := false, narrowed := true }
def FnExactLostAtUptoSaid : Prop := fnExactLostAtUptoRow.holds Try.pinned (OpenSpec.upto fnExactLostAtSpec)

/-- 'laws.FnExactDecides', WHERE WHAT IT READS IS OF BULK AT MOST 1048576: true; the input reads as it did. -/
def fnExactDecidesUptoRow : OpenClaim := { program := "ytppdmcimddhbaaa", sum := "e66e9bf9a5516939a4ea9ba81ee4098e83af215221f5198f61f236aff850e93c", func := "loop.example/g00474/laws.FnExactDecides", spec := "fnExactDecides", unfollowed := true, recurses := true, apart := false, narrowed := true }
def FnExactDecidesUptoSaid : Prop := fnExactDecidesUptoRow.holds Try.pinned (OpenSpec.upto fnExactDecidesSpec)

/-- 'laws.FnPoliciesNeed', WHERE WHAT IT READS IS OF BULK AT MOST 1048576: true; the input reads as it did. -/
def fnPoliciesNeedUptoRow : OpenClaim := { program := "ytppdmcimddhbaaa", sum := "e66e9bf9a5516939a4ea9ba81ee4098e83af215221f5198f61f236aff850e93c", func := "loop.example/g00474/laws.FnPoliciesNeed", spec := "fnPoliciesNeed", unfollowed := true, recurses := true, apart := false, narrowed := true }
def FnPoliciesNeedUptoSaid : Prop := fnPoliciesNeedUptoRow.holds Try.pinned (OpenSpec.upto fnPoliciesNeedSpec)

/-- 'laws.FnExactCostOf', WHERE WHAT IT READS IS OF BULK AT MOST 1048576: true; the input reads as it did. -/
def fnExactCostOfUptoRow : OpenClaim := { program := "ytppdmcimddhbaaa", sum := "e66e9bf9a5516939a4ea9ba81ee4098e83af215221f5198f61f236aff850e93c", func := "loop.example/g00474/laws.FnExactCostOf", spec := "fnExactCostOf", unfollowed := true, recurses := true, apart := false, narrowed := true }
def FnExactCostOfUptoSaid : Prop := fnExactCostOfUptoRow.holds Try.pinned (OpenSpec.upto fnExactCostOfSpec)

end Rows
end Go.Proofs.Ytppdmcimddhbaaa
