/-
  No cell of these rows narrows 'for every input' (looked for: loops, veiled, ifaces, maps, wideKeys, modest, calm, conditions, laid).
  DERIVED. THE GIVEN ROWS OF THIS SEAT. 12 by the template 'for every input the law returns true; each argument reads behind the call as it read before'; 0 by the template 'total and deterministic' (their statements: YtcgnegnljffkmaaTotals.lean).
  GIVEN WITH THE SEED: the statements are not yours to turn. If you find one false, say at which input.
  Laid BY PROGRAM, IN A SANDBOX (cutbox-rows.mjs): the forced cells as the released guide's own fill.sh prints them over the translation a958201f58d1d76c… (all of the seat's roots in one cut). By AI agents, Wed Nov 11 2026. No macro, syntax, notation, axiom, sorry.
-/
import Derived.Test.YtcgnegnljffkmaaChecked
import GoSem.Claim
import GoSem.ClaimJoined
import GoSem.ClaimMapViews
import Derived.JoinedTies
import Derived.KernelRfl
namespace Go.Proofs.Ytcgnegnljffkmaa
/- THE CELL 'sum', in the pinned program and in every row, IS THE sha256 OF THE DUMP (.gsa) THAT YtcgnegnljffkmaaProg.lean LOADS. Nothing in Lean hashes anything: it is a label: what it is worth is what the hold of that sum in a sandbox is worth. -/
noncomputable def Try.pinned : Pinned := { name := "ytcgnegnljffkmaa", sum := "a958201f58d1d76cb3bb6f0063f80936a2a42c34b104601cea6f0831bf1e29e1", checked := Try.checked }
namespace Rows
def none {H : Type} : Left H := { results := [], args := [] }

/-- 'laws.FnExactSubjectOf': WHATEVER THE INPUT: true; the input reads as it did. -/
def fnExactSubjectOfSpec : ChangeSpec := { name := "fnExactSubjectOf", fn := fun _ => fun
  | [d] => { results := [.lit (.bool true)], args := [d] }
  | _ => none }
def fnExactSubjectOfRow : OpenClaim := { program := "ytcgnegnljffkmaa", sum := "a958201f58d1d76cb3bb6f0063f80936a2a42c34b104601cea6f0831bf1e29e1", func := "loop.example/g00474/laws.FnExactSubjectOf", spec := "fnExactSubjectOf", apart := false }
def FnExactSubjectOfSaid : Prop := fnExactSubjectOfRow.holds Try.pinned (OpenSpec.ofChange fnExactSubjectOfSpec)

/-- ITS FALSE NEIGHBOUR: 'it returns false'. Refute it at one input. -/
def fnExactSubjectOfWrong : ChangeSpec := { name := "fnExactSubjectOf", fn := fun _ => fun
  | [d] => { results := [.lit (.bool false)], args := [d] }
  | _ => none }
def FnExactSubjectOfWrongFalsely : Prop := fnExactSubjectOfRow.holds Try.pinned (OpenSpec.ofChange fnExactSubjectOfWrong)

/-- 'laws.FnExactPolicyOk': WHATEVER THE INPUT: true; the input reads as it did. -/
def fnExactPolicyOkSpec : ChangeSpec := { name := "fnExactPolicyOk", fn := fun _ => fun
  | [d] => { results := [.lit (.bool true)], args := [d] }
  | _ => none }
def fnExactPolicyOkRow : OpenClaim := { program := "ytcgnegnljffkmaa", sum := "a958201f58d1d76cb3bb6f0063f80936a2a42c34b104601cea6f0831bf1e29e1", func := "loop.example/g00474/laws.FnExactPolicyOk", spec := "fnExactPolicyOk", apart := false }
def FnExactPolicyOkSaid : Prop := fnExactPolicyOkRow.holds Try.pinned (OpenSpec.ofChange fnExactPolicyOkSpec)

/-- ITS FALSE NEIGHBOUR: 'it returns false'. Refute it at one input. -/
def fnExactPolicyOkWrong : ChangeSpec := { name := "fnExactPolicyOk", fn := fun _ => fun
  | [d] => { results := [.lit (.bool false)], args := [d] }
  | _ => none }
def FnExactPolicyOkWrongFalsely : Prop := fnExactPolicyOkRow.holds Try.pinned (OpenSpec.ofChange fnExactPolicyOkWrong)

/-- 'laws.FnExactPolicyText': WHATEVER THE INPUT: true; the input reads as it did. -/
def fnExactPolicyTextSpec : ChangeSpec := { name := "fnExactPolicyText", fn := fun _ => fun
  | [d] => { results := [.lit (.bool true)], args := [d] }
  | _ => none }
def fnExactPolicyTextRow : OpenClaim := { program := "ytcgnegnljffkmaa", sum := "a958201f58d1d76cb3bb6f0063f80936a2a42c34b104601cea6f0831bf1e29e1", func := "loop.example/g00474/laws.FnExactPolicyText", spec := "fnExactPolicyText", apart := false }
def FnExactPolicyTextSaid : Prop := fnExactPolicyTextRow.holds Try.pinned (OpenSpec.ofChange fnExactPolicyTextSpec)

/-- ITS FALSE NEIGHBOUR: 'it returns false'. Refute it at one input. -/
def fnExactPolicyTextWrong : ChangeSpec := { name := "fnExactPolicyText", fn := fun _ => fun
  | [d] => { results := [.lit (.bool false)], args := [d] }
  | _ => none }
def FnExactPolicyTextWrongFalsely : Prop := fnExactPolicyTextRow.holds Try.pinned (OpenSpec.ofChange fnExactPolicyTextWrong)

/-- 'laws.FnExactRising': WHATEVER THE INPUT: true; the input reads as it did. -/
def fnExactRisingSpec : ChangeSpec := { name := "fnExactRising", fn := fun _ => fun
  | [d] => { results := [.lit (.bool true)], args := [d] }
  | _ => none }
def fnExactRisingRow : OpenClaim := { program := "ytcgnegnljffkmaa", sum := "a958201f58d1d76cb3bb6f0063f80936a2a42c34b104601cea6f0831bf1e29e1", func := "loop.example/g00474/laws.FnExactRising", spec := "fnExactRising", apart := false }
def FnExactRisingSaid : Prop := fnExactRisingRow.holds Try.pinned (OpenSpec.ofChange fnExactRisingSpec)

/-- ITS FALSE NEIGHBOUR: 'it returns false'. Refute it at one input. -/
def fnExactRisingWrong : ChangeSpec := { name := "fnExactRising", fn := fun _ => fun
  | [d] => { results := [.lit (.bool false)], args := [d] }
  | _ => none }
def FnExactRisingWrongFalsely : Prop := fnExactRisingRow.holds Try.pinned (OpenSpec.ofChange fnExactRisingWrong)

/-- 'laws.FnExactWithout': WHATEVER THE INPUT: true; the input reads as it did. -/
def fnExactWithoutSpec : ChangeSpec := { name := "fnExactWithout", fn := fun _ => fun
  | [d1, d2] => { results := [.lit (.bool true)], args := [d1, d2] }
  | _ => none }
def fnExactWithoutRow : OpenClaim := { program := "ytcgnegnljffkmaa", sum := "a958201f58d1d76cb3bb6f0063f80936a2a42c34b104601cea6f0831bf1e29e1", func := "loop.example/g00474/laws.FnExactWithout", spec := "fnExactWithout", apart := false }
def FnExactWithoutSaid : Prop := fnExactWithoutRow.holds Try.pinned (OpenSpec.ofChange fnExactWithoutSpec)

/-- ITS FALSE NEIGHBOUR: 'it returns false'. Refute it at one input. -/
def fnExactWithoutWrong : ChangeSpec := { name := "fnExactWithout", fn := fun _ => fun
  | [d1, d2] => { results := [.lit (.bool false)], args := [d1, d2] }
  | _ => none }
def FnExactWithoutWrongFalsely : Prop := fnExactWithoutRow.holds Try.pinned (OpenSpec.ofChange fnExactWithoutWrong)

/-- 'laws.FnLeast': WHATEVER THE INPUT: true; the input reads as it did. -/
def fnLeastSpec : ChangeSpec := { name := "fnLeast", fn := fun _ => fun
  | [d] => { results := [.lit (.bool true)], args := [d] }
  | _ => none }
def fnLeastRow : OpenClaim := { program := "ytcgnegnljffkmaa", sum := "a958201f58d1d76cb3bb6f0063f80936a2a42c34b104601cea6f0831bf1e29e1", func := "loop.example/g00474/laws.FnLeast", spec := "fnLeast", unfollowed := true, recurses := true, apart := false }
def FnLeastSaid : Prop := fnLeastRow.holds Try.pinned (OpenSpec.ofChange fnLeastSpec)

/-- ITS FALSE NEIGHBOUR: 'it returns false'. Refute it at one input. -/
def fnLeastWrong : ChangeSpec := { name := "fnLeast", fn := fun _ => fun
  | [d] => { results := [.lit (.bool false)], args := [d] }
  | _ => none }
def FnLeastWrongFalsely : Prop := fnLeastRow.holds Try.pinned (OpenSpec.ofChange fnLeastWrong)

/-- 'laws.FnExactStepText': WHATEVER THE INPUT: true; the input reads as it did. -/
def fnExactStepTextSpec : ChangeSpec := { name := "fnExactStepText", fn := fun _ => fun
  | [d] => { results := [.lit (.bool true)], args := [d] }
  | _ => none }
def fnExactStepTextRow : OpenClaim := { program := "ytcgnegnljffkmaa", sum := "a958201f58d1d76cb3bb6f0063f80936a2a42c34b104601cea6f0831bf1e29e1", func := "loop.example/g00474/laws.FnExactStepText", spec := "fnExactStepText", apart := false }
def FnExactStepTextSaid : Prop := fnExactStepTextRow.holds Try.pinned (OpenSpec.ofChange fnExactStepTextSpec)

/-- ITS FALSE NEIGHBOUR: 'it returns false'. Refute it at one input. -/
def fnExactStepTextWrong : ChangeSpec := { name := "fnExactStepText", fn := fun _ => fun
  | [d] => { results := [.lit (.bool false)], args := [d] }
  | _ => none }
def FnExactStepTextWrongFalsely : Prop := fnExactStepTextRow.holds Try.pinned (OpenSpec.ofChange fnExactStepTextWrong)

/-- 'laws.FnExactPolicyRoles': WHATEVER THE INPUT: true; the input reads as it did. -/
def fnExactPolicyRolesSpec : ChangeSpec := { name := "fnExactPolicyRoles", fn := fun _ => fun
  | [d] => { results := [.lit (.bool true)], args := [d] }
  | _ => none }
def fnExactPolicyRolesRow : OpenClaim := { program := "ytcgnegnljffkmaa", sum := "a958201f58d1d76cb3bb6f0063f80936a2a42c34b104601cea6f0831bf1e29e1", func := "loop.example/g00474/laws.FnExactPolicyRoles", spec := "fnExactPolicyRoles", apart := false }
def FnExactPolicyRolesSaid : Prop := fnExactPolicyRolesRow.holds Try.pinned (OpenSpec.ofChange fnExactPolicyRolesSpec)

/-- ITS FALSE NEIGHBOUR: 'it returns false'. Refute it at one input. -/
def fnExactPolicyRolesWrong : ChangeSpec := { name := "fnExactPolicyRoles", fn := fun _ => fun
  | [d] => { results := [.lit (.bool false)], args := [d] }
  | _ => none }
def FnExactPolicyRolesWrongFalsely : Prop := fnExactPolicyRolesRow.holds Try.pinned (OpenSpec.ofChange fnExactPolicyRolesWrong)

/-- 'laws.FnExactReadPolicy': WHATEVER THE INPUT: true; the input reads as it did. -/
def fnExactReadPolicySpec : ChangeSpec := { name := "fnExactReadPolicy", fn := fun _ => fun
  | [d] => { results := [.lit (.bool true)], args := [d] }
  | _ => none }
def fnExactReadPolicyRow : OpenClaim := { program := "ytcgnegnljffkmaa", sum := "a958201f58d1d76cb3bb6f0063f80936a2a42c34b104601cea6f0831bf1e29e1", func := "loop.example/g00474/laws.FnExactReadPolicy", spec := "fnExactReadPolicy", apart := false }
def FnExactReadPolicySaid : Prop := fnExactReadPolicyRow.holds Try.pinned (OpenSpec.ofChange fnExactReadPolicySpec)

/-- ITS FALSE NEIGHBOUR: 'it returns false'. Refute it at one input. -/
def fnExactReadPolicyWrong : ChangeSpec := { name := "fnExactReadPolicy", fn := fun _ => fun
  | [d] => { results := [.lit (.bool false)], args := [d] }
  | _ => none }
def FnExactReadPolicyWrongFalsely : Prop := fnExactReadPolicyRow.holds Try.pinned (OpenSpec.ofChange fnExactReadPolicyWrong)

/-- 'laws.FnExactProofText': WHATEVER THE INPUT: true; the input reads as it did. -/
def fnExactProofTextSpec : ChangeSpec := { name := "fnExactProofText", fn := fun _ => fun
  | [d] => { results := [.lit (.bool true)], args := [d] }
  | _ => none }
def fnExactProofTextRow : OpenClaim := { program := "ytcgnegnljffkmaa", sum := "a958201f58d1d76cb3bb6f0063f80936a2a42c34b104601cea6f0831bf1e29e1", func := "loop.example/g00474/laws.FnExactProofText", spec := "fnExactProofText", apart := false }
def FnExactProofTextSaid : Prop := fnExactProofTextRow.holds Try.pinned (OpenSpec.ofChange fnExactProofTextSpec)

/-- ITS FALSE NEIGHBOUR: 'it returns false'. Refute it at one input. -/
def fnExactProofTextWrong : ChangeSpec := { name := "fnExactProofText", fn := fun _ => fun
  | [d] => { results := [.lit (.bool false)], args := [d] }
  | _ => none }
def FnExactProofTextWrongFalsely : Prop := fnExactProofTextRow.holds Try.pinned (OpenSpec.ofChange fnExactProofTextWrong)

/-- 'laws.FnExactHoldsAt': WHATEVER THE INPUT: true; the input reads as it did. -/
def fnExactHoldsAtSpec : ChangeSpec := { name := "fnExactHoldsAt", fn := fun _ => fun
  | [d1, d2, d3, d4] => { results := [.lit (.bool true)], args := [d1, d2, d3, d4] }
  | _ => none }
def fnExactHoldsAtRow : OpenClaim := { program := "ytcgnegnljffkmaa", sum := "a958201f58d1d76cb3bb6f0063f80936a2a42c34b104601cea6f0831bf1e29e1", func := "loop.example/g00474/laws.FnExactHoldsAt", spec := "fnExactHoldsAt", unfollowed := true, recurses := true, apart := false }
def FnExactHoldsAtSaid : Prop := fnExactHoldsAtRow.holds Try.pinned (OpenSpec.ofChange fnExactHoldsAtSpec)

/-- ITS FALSE NEIGHBOUR: 'it returns false'. Refute it at one input. -/
def fnExactHoldsAtWrong : ChangeSpec := { name := "fnExactHoldsAt", fn := fun _ => fun
  | [d1, d2, d3, d4] => { results := [.lit (.bool false)], args := [d1, d2, d3, d4] }
  | _ => none }
def FnExactHoldsAtWrongFalsely : Prop := fnExactHoldsAtRow.holds Try.pinned (OpenSpec.ofChange fnExactHoldsAtWrong)

/-- 'laws.FnExactSubjectPlace': WHATEVER THE INPUT: true; the input reads as it did. -/
def fnExactSubjectPlaceSpec : ChangeSpec := { name := "fnExactSubjectPlace", fn := fun _ => fun
  | [d] => { results := [.lit (.bool true)], args := [d] }
  | _ => none }
def fnExactSubjectPlaceRow : OpenClaim := { program := "ytcgnegnljffkmaa", sum := "a958201f58d1d76cb3bb6f0063f80936a2a42c34b104601cea6f0831bf1e29e1", func := "loop.example/g00474/laws.FnExactSubjectPlace", spec := "fnExactSubjectPlace", inPlace := ["internal/abi.NoEscape", "internal/bytealg.MakeNoZero"], apart := false }
def FnExactSubjectPlaceSaid : Prop := fnExactSubjectPlaceRow.holds Try.pinned (OpenSpec.ofChange fnExactSubjectPlaceSpec)

/-- ITS FALSE NEIGHBOUR: 'it returns false'. Refute it at one input. -/
def fnExactSubjectPlaceWrong : ChangeSpec := { name := "fnExactSubjectPlace", fn := fun _ => fun
  | [d] => { results := [.lit (.bool false)], args := [d] }
  | _ => none }
def FnExactSubjectPlaceWrongFalsely : Prop := fnExactSubjectPlaceRow.holds Try.pinned (OpenSpec.ofChange fnExactSubjectPlaceWrong)

/- THE SECOND FORM. 'bulk': how many values and letters a reading holds, each counted each time it is reached (what is shared counts as often as it is met; a slice's spare places count too). A statement '..UptoSaid' is the law's where the arguments, and the package variables that the reading takes, are together of bulk at most 1048576: NARROWER than '..Said'. Prove '..Said' where nothing that the law and all that it calls make is longer than what came in: it says more and counts as full. Else prove '..UptoSaid'. A law counts once. -/
mutual
def uptoBulk {H : Type} : DataW H → Nat
  | .lit (.string bytes) => bytes.length + 1
  | .lit _ => 1
  | .nil => 1
  | .ptr d => uptoBulk d + 1
  | .slice elems spare => uptoBulkAll elems + uptoBulkAll spare + 1
  | .agg parts => uptoBulkAll parts + 1
  | .iface _ d => uptoBulk d + 1
  | .map entries => uptoBulkEntries entries + 1
  | .held _ => 1
def uptoBulkAll {H : Type} : List (DataW H) → Nat
  | [] => 0
  | d :: r => uptoBulk d + uptoBulkAll r
def uptoBulkEntries {H : Type} : List (Lit × DataW H) → Nat
  | [] => 0
  | x :: r => uptoBulkEntry x + uptoBulkEntries r
def uptoBulkEntry {H : Type} : Lit × DataW H → Nat
  | (.string bytes, d) => bytes.length + uptoBulk d + 1
  | (_, d) => uptoBulk d + 1
 end
def uptoSmall : (H : Type) → List (DataW H) → Bool := fun _ ds => decide (uptoBulkAll ds ≤ 1048576)
def OpenSpec.upto (s : _root_.Go.ChangeSpec) : _root_.Go.OpenSpec := { _root_.Go.OpenSpec.ofChange s with cond := some uptoSmall }

/-- 'laws.FnExactSubjectOf', WHERE WHAT IT READS IS OF BULK AT MOST 1048576: true; the input reads as it did. -/
def fnExactSubjectOfUptoRow : OpenClaim := { program := "ytcgnegnljffkmaa", sum := "a958201f58d1d76cb3bb6f0063f80936a2a42c34b104601cea6f0831bf1e29e1", func := "loop.example/g00474/laws.FnExactSubjectOf", spec := "fnExactSubjectOf", apart := false, narrowed := true }
def FnExactSubjectOfUptoSaid : Prop := fnExactSubjectOfUptoRow.holds Try.pinned (OpenSpec.upto fnExactSubjectOfSpec)

/-- 'laws.FnExactPolicyOk', WHERE WHAT IT READS IS OF BULK AT MOST 1048576: true; the input reads as it did. -/
def fnExactPolicyOkUptoRow : OpenClaim := { program := "ytcgnegnljffkmaa", sum := "a958201f58d1d76cb3bb6f0063f80936a2a42c34b104601cea6f0831bf1e29e1", func := "loop.example/g00474/laws.FnExactPolicyOk", spec := "fnExactPolicyOk", apart := false, narrowed := true }
def FnExactPolicyOkUptoSaid : Prop := fnExactPolicyOkUptoRow.holds Try.pinned (OpenSpec.upto fnExactPolicyOkSpec)

/-- 'laws.FnExactPolicyText', WHERE WHAT IT READS IS OF BULK AT MOST 1048576: true; the input reads as it did. -/
def fnExactPolicyTextUptoRow : OpenClaim := { program := "ytcgnegnljffkmaa", sum := "a958201f58d1d76cb3bb6f0063f80936a2a42c34b104601cea6f0831bf1e29e1", func := "loop.example/g00474/laws.FnExactPolicyText", spec := "fnExactPolicyText", apart := false, narrowed := true }
def FnExactPolicyTextUptoSaid : Prop := fnExactPolicyTextUptoRow.holds Try.pinned (OpenSpec.upto fnExactPolicyTextSpec)

/-- 'laws.FnExactRising', WHERE WHAT IT READS IS OF BULK AT MOST 1048576: true; the input reads as it did. -/
def fnExactRisingUptoRow : OpenClaim := { program := "ytcgnegnljffkmaa", sum := "a958201f58d1d76cb3bb6f0063f80936a2a42c34b104601cea6f0831bf1e29e1", func := "loop.example/g00474/laws.FnExactRising", spec := "fnExactRising", apart := false, narrowed := true }
def FnExactRisingUptoSaid : Prop := fnExactRisingUptoRow.holds Try.pinned (OpenSpec.upto fnExactRisingSpec)

/-- 'laws.FnExactWithout', WHERE WHAT IT READS IS OF BULK AT MOST 1048576: true; the input reads as it did. -/
def fnExactWithoutUptoRow : OpenClaim := { program := "ytcgnegnljffkmaa", sum := "a958201f58d1d76cb3bb6f0063f80936a2a42c34b104601cea6f0831bf1e29e1", func := "loop.example/g00474/laws.FnExactWithout", spec := "fnExactWithout", apart := false, narrowed := true }
def FnExactWithoutUptoSaid : Prop := fnExactWithoutUptoRow.holds Try.pinned (OpenSpec.upto fnExactWithoutSpec)

/-- 'laws.FnLeast', WHERE WHAT IT READS IS OF BULK AT MOST 1048576: true; the input reads as it did. -/
def fnLeastUptoRow : OpenClaim := { program := "ytcgnegnljffkmaa", sum := "a958201f58d1d76cb3bb6f0063f80936a2a42c34b104601cea6f0831bf1e29e1", func := "loop.example/g00474/laws.FnLeast", spec := "fnLeast", unfollowed := true, recurses := true, apart := false, narrowed := true }
def FnLeastUptoSaid : Prop := fnLeastUptoRow.holds Try.pinned (OpenSpec.upto fnLeastSpec)

/-- 'laws.FnExactStepText', WHERE WHAT IT READS IS OF BULK AT MOST 1048576: true; the input reads as it did. -/
def fnExactStepTextUptoRow : OpenClaim := { program := "ytcgnegnljffkmaa", sum := "a958201f58d1d76cb3bb6f0063f80936a2a42c34b104601cea6f0831bf1e29e1", func := "loop.example/g00474/laws.FnExactStepText", spec := "fnExactStepText", apart := false, narrowed := true }
def FnExactStepTextUptoSaid : Prop := fnExactStepTextUptoRow.holds Try.pinned (OpenSpec.upto fnExactStepTextSpec)

/-- 'laws.FnExactPolicyRoles', WHERE WHAT IT READS IS OF BULK AT MOST 1048576: true; the input reads as it did. -/
def fnExactPolicyRolesUptoRow : OpenClaim := { program := "ytcgnegnljffkmaa", sum := "a958201f58d1d76cb3bb6f0063f80936a2a42c34b104601cea6f0831bf1e29e1", func := "loop.example/g00474/laws.FnExactPolicyRoles", spec := "fnExactPolicyRoles", apart := false, narrowed := true }
def FnExactPolicyRolesUptoSaid : Prop := fnExactPolicyRolesUptoRow.holds Try.pinned (OpenSpec.upto fnExactPolicyRolesSpec)

/-- 'laws.FnExactReadPolicy', WHERE WHAT IT READS IS OF BULK AT MOST 1048576: true; the input reads as it did. -/
def fnExactReadPolicyUptoRow : OpenClaim := { program := "ytcgnegnljffkmaa", sum := "a958201f58d1d76cb3bb6f0063f80936a2a42c34b104601cea6f0831bf1e29e1", func := "loop.example/g00474/laws.FnExactReadPolicy", spec := "fnExactReadPolicy", apart := false, narrowed := true }
def FnExactReadPolicyUptoSaid : Prop := fnExactReadPolicyUptoRow.holds Try.pinned (OpenSpec.upto fnExactReadPolicySpec)

/-- 'laws.FnExactProofText', WHERE WHAT IT READS IS OF BULK AT MOST 1048576: true; the input reads as it did. -/
def fnExactProofTextUptoRow : OpenClaim := { program := "ytcgnegnljffkmaa", sum := "a958201f58d1d76cb3bb6f0063f80936a2a42c34b104601cea6f0831bf1e29e1", func := "loop.example/g00474/laws.FnExactProofText", spec := "fnExactProofText", apart := false, narrowed := true }
def FnExactProofTextUptoSaid : Prop := fnExactProofTextUptoRow.holds Try.pinned (OpenSpec.upto fnExactProofTextSpec)

/-- 'laws.FnExactHoldsAt', WHERE WHAT IT READS IS OF BULK AT MOST 1048576: true; the input reads as it did. -/
def fnExactHoldsAtUptoRow : OpenClaim := { program := "ytcgnegnljffkmaa", sum := "a958201f58d1d76cb3bb6f0063f80936a2a42c34b104601cea6f0831bf1e29e1", func := "loop.example/g00474/laws.FnExactHoldsAt", spec := "fnExactHoldsAt", unfollowed := true, recurses := true, apart := false, narrowed := true }
def FnExactHoldsAtUptoSaid : Prop := fnExactHoldsAtUptoRow.holds Try.pinned (OpenSpec.upto fnExactHoldsAtSpec)

/-- 'laws.FnExactSubjectPlace', WHERE WHAT IT READS IS OF BULK AT MOST 1048576: true; the input reads as it did. -/
def fnExactSubjectPlaceUptoRow : OpenClaim := { program := "ytcgnegnljffkmaa", sum := "a958201f58d1d76cb3bb6f0063f80936a2a42c34b104601cea6f0831bf1e29e1", func := "loop.example/g00474/laws.FnExactSubjectPlace", spec := "fnExactSubjectPlace", inPlace := ["internal/abi.NoEscape", "internal/bytealg.MakeNoZero"], apart := false, narrowed := true }
def FnExactSubjectPlaceUptoSaid : Prop := fnExactSubjectPlaceUptoRow.holds Try.pinned (OpenSpec.upto fnExactSubjectPlaceSpec)

end Rows
end Go.Proofs.Ytcgnegnljffkmaa
