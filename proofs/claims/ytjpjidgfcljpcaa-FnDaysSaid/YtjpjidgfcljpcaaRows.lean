/-
  No cell of these rows narrows 'for every input' (looked for: loops, veiled, ifaces, maps, wideKeys, modest, calm, conditions, laid).
  DERIVED. THE GIVEN ROWS OF THIS SEAT. 12 by the template 'for every input the law returns true; each argument reads behind the call as it read before'; 0 by the template 'total and deterministic' (their statements: YtjpjidgfcljpcaaTotals.lean).
  GIVEN WITH THE SEED: the statements are not yours to turn. If you find one false, say at which input.
  Laid BY PROGRAM, IN A SANDBOX (cutbox-rows.mjs): the forced cells as the released guide's own fill.sh prints them over the translation 6f400defc2dc84c6… (all of the seat's roots in one cut). By AI agents, Wed Nov 11 2026. No macro, syntax, notation, axiom, sorry.
-/
import Derived.Test.YtjpjidgfcljpcaaChecked
import GoSem.Claim
import GoSem.ClaimJoined
import GoSem.ClaimMapViews
import Derived.JoinedTies
import Derived.KernelRfl
namespace Go.Proofs.Ytjpjidgfcljpcaa
/- THE CELL 'sum', in the pinned program and in every row, IS THE sha256 OF THE DUMP (.gsa) THAT YtjpjidgfcljpcaaProg.lean LOADS. Nothing in Lean hashes anything: it is a label: what it is worth is what the hold of that sum in a sandbox is worth. -/
noncomputable def Try.pinned : Pinned := { name := "ytjpjidgfcljpcaa", sum := "6f400defc2dc84c6be3e836cc77b717f2b0b64b8aa844660e6b102a663811eb8", checked := Try.checked }
namespace Rows
def none {H : Type} : Left H := { results := [], args := [] }

/-- 'laws.FnExactReadProof': WHATEVER THE INPUT: true; the input reads as it did. -/
def fnExactReadProofSpec : ChangeSpec := { name := "fnExactReadProof", fn := fun _ => fun
  | [d] => { results := [.lit (.bool true)], args := [d] }
  | _ => none }
def fnExactReadProofRow : OpenClaim := { program := "ytjpjidgfcljpcaa", sum := "6f400defc2dc84c6be3e836cc77b717f2b0b64b8aa844660e6b102a663811eb8", func := "loop.example/g00474/laws.FnExactReadProof", spec := "fnExactReadProof", apart := false }
def FnExactReadProofSaid : Prop := fnExactReadProofRow.holds Try.pinned (OpenSpec.ofChange fnExactReadProofSpec)

/-- ITS FALSE NEIGHBOUR: 'it returns false'. Refute it at one input. -/
def fnExactReadProofWrong : ChangeSpec := { name := "fnExactReadProof", fn := fun _ => fun
  | [d] => { results := [.lit (.bool false)], args := [d] }
  | _ => none }
def FnExactReadProofWrongFalsely : Prop := fnExactReadProofRow.holds Try.pinned (OpenSpec.ofChange fnExactReadProofWrong)

/-- 'laws.FnExactCostsOf': WHATEVER THE INPUT: true; the input reads as it did. -/
def fnExactCostsOfSpec : ChangeSpec := { name := "fnExactCostsOf", fn := fun _ => fun
  | [d] => { results := [.lit (.bool true)], args := [d] }
  | _ => none }
def fnExactCostsOfRow : OpenClaim := { program := "ytjpjidgfcljpcaa", sum := "6f400defc2dc84c6be3e836cc77b717f2b0b64b8aa844660e6b102a663811eb8", func := "loop.example/g00474/laws.FnExactCostsOf", spec := "fnExactCostsOf", unfollowed := true, recurses := true, apart := false }
def FnExactCostsOfSaid : Prop := fnExactCostsOfRow.holds Try.pinned (OpenSpec.ofChange fnExactCostsOfSpec)

/-- ITS FALSE NEIGHBOUR: 'it returns false'. Refute it at one input. -/
def fnExactCostsOfWrong : ChangeSpec := { name := "fnExactCostsOf", fn := fun _ => fun
  | [d] => { results := [.lit (.bool false)], args := [d] }
  | _ => none }
def FnExactCostsOfWrongFalsely : Prop := fnExactCostsOfRow.holds Try.pinned (OpenSpec.ofChange fnExactCostsOfWrong)

/-- 'laws.FnExactEndsOf': WHATEVER THE INPUT: true; the input reads as it did. -/
def fnExactEndsOfSpec : ChangeSpec := { name := "fnExactEndsOf", fn := fun _ => fun
  | [d] => { results := [.lit (.bool true)], args := [d] }
  | _ => none }
def fnExactEndsOfRow : OpenClaim := { program := "ytjpjidgfcljpcaa", sum := "6f400defc2dc84c6be3e836cc77b717f2b0b64b8aa844660e6b102a663811eb8", func := "loop.example/g00474/laws.FnExactEndsOf", spec := "fnExactEndsOf", recurses := true, apart := false }
def FnExactEndsOfSaid : Prop := fnExactEndsOfRow.holds Try.pinned (OpenSpec.ofChange fnExactEndsOfSpec)

/-- ITS FALSE NEIGHBOUR: 'it returns false'. Refute it at one input. -/
def fnExactEndsOfWrong : ChangeSpec := { name := "fnExactEndsOf", fn := fun _ => fun
  | [d] => { results := [.lit (.bool false)], args := [d] }
  | _ => none }
def FnExactEndsOfWrongFalsely : Prop := fnExactEndsOfRow.holds Try.pinned (OpenSpec.ofChange fnExactEndsOfWrong)

/-- 'laws.FnLeastEach': WHATEVER THE INPUT: true; the input reads as it did. -/
def fnLeastEachSpec : ChangeSpec := { name := "fnLeastEach", fn := fun _ => fun
  | [d] => { results := [.lit (.bool true)], args := [d] }
  | _ => none }
def fnLeastEachRow : OpenClaim := { program := "ytjpjidgfcljpcaa", sum := "6f400defc2dc84c6be3e836cc77b717f2b0b64b8aa844660e6b102a663811eb8", func := "loop.example/g00474/laws.FnLeastEach", spec := "fnLeastEach", unfollowed := true, recurses := true, apart := false }
def FnLeastEachSaid : Prop := fnLeastEachRow.holds Try.pinned (OpenSpec.ofChange fnLeastEachSpec)

/-- ITS FALSE NEIGHBOUR: 'it returns false'. Refute it at one input. -/
def fnLeastEachWrong : ChangeSpec := { name := "fnLeastEach", fn := fun _ => fun
  | [d] => { results := [.lit (.bool false)], args := [d] }
  | _ => none }
def FnLeastEachWrongFalsely : Prop := fnLeastEachRow.holds Try.pinned (OpenSpec.ofChange fnLeastEachWrong)

/-- 'laws.FnPoliciesTold': WHATEVER THE INPUT: true; the input reads as it did. -/
def fnPoliciesToldSpec : ChangeSpec := { name := "fnPoliciesTold", fn := fun _ => fun
  | [d] => { results := [.lit (.bool true)], args := [d] }
  | _ => none }
def fnPoliciesToldRow : OpenClaim := { program := "ytjpjidgfcljpcaa", sum := "6f400defc2dc84c6be3e836cc77b717f2b0b64b8aa844660e6b102a663811eb8", func := "loop.example/g00474/laws.FnPoliciesTold", spec := "fnPoliciesTold", unfollowed := true, recurses := true, apart := false }
def FnPoliciesToldSaid : Prop := fnPoliciesToldRow.holds Try.pinned (OpenSpec.ofChange fnPoliciesToldSpec)

/-- ITS FALSE NEIGHBOUR: 'it returns false'. Refute it at one input. -/
def fnPoliciesToldWrong : ChangeSpec := { name := "fnPoliciesTold", fn := fun _ => fun
  | [d] => { results := [.lit (.bool false)], args := [d] }
  | _ => none }
def FnPoliciesToldWrongFalsely : Prop := fnPoliciesToldRow.holds Try.pinned (OpenSpec.ofChange fnPoliciesToldWrong)

/-- 'laws.FnDays': WHATEVER THE INPUT: true; the input reads as it did. -/
def fnDaysSpec : ChangeSpec := { name := "fnDays", fn := fun _ => fun
  | [d] => { results := [.lit (.bool true)], args := [d] }
  | _ => none }
def fnDaysRow : OpenClaim := { program := "ytjpjidgfcljpcaa", sum := "6f400defc2dc84c6be3e836cc77b717f2b0b64b8aa844660e6b102a663811eb8", func := "loop.example/g00474/laws.FnDays", spec := "fnDays", unfollowed := true, recurses := true, apart := false }
def FnDaysSaid : Prop := fnDaysRow.holds Try.pinned (OpenSpec.ofChange fnDaysSpec)

/-- ITS FALSE NEIGHBOUR: 'it returns false'. Refute it at one input. -/
def fnDaysWrong : ChangeSpec := { name := "fnDays", fn := fun _ => fun
  | [d] => { results := [.lit (.bool false)], args := [d] }
  | _ => none }
def FnDaysWrongFalsely : Prop := fnDaysRow.holds Try.pinned (OpenSpec.ofChange fnDaysWrong)

/-- 'laws.FnLeansRound': WHATEVER THE INPUT: true; the input reads as it did. -/
def fnLeansRoundSpec : ChangeSpec := { name := "fnLeansRound", fn := fun _ => fun
  | [d] => { results := [.lit (.bool true)], args := [d] }
  | _ => none }
def fnLeansRoundRow : OpenClaim := { program := "ytjpjidgfcljpcaa", sum := "6f400defc2dc84c6be3e836cc77b717f2b0b64b8aa844660e6b102a663811eb8", func := "loop.example/g00474/laws.FnLeansRound", spec := "fnLeansRound", unfollowed := true, recurses := true, apart := false }
def FnLeansRoundSaid : Prop := fnLeansRoundRow.holds Try.pinned (OpenSpec.ofChange fnLeansRoundSpec)

/-- ITS FALSE NEIGHBOUR: 'it returns false'. Refute it at one input. -/
def fnLeansRoundWrong : ChangeSpec := { name := "fnLeansRound", fn := fun _ => fun
  | [d] => { results := [.lit (.bool false)], args := [d] }
  | _ => none }
def FnLeansRoundWrongFalsely : Prop := fnLeansRoundRow.holds Try.pinned (OpenSpec.ofChange fnLeansRoundWrong)

/-- 'laws.FnExactLeansOn': WHATEVER THE INPUT: true; the input reads as it did. -/
def fnExactLeansOnSpec : ChangeSpec := { name := "fnExactLeansOn", fn := fun _ => fun
  | [d1, d2] => { results := [.lit (.bool true)], args := [d1, d2] }
  | _ => none }
def fnExactLeansOnRow : OpenClaim := { program := "ytjpjidgfcljpcaa", sum := "6f400defc2dc84c6be3e836cc77b717f2b0b64b8aa844660e6b102a663811eb8", func := "loop.example/g00474/laws.FnExactLeansOn", spec := "fnExactLeansOn", unfollowed := true, recurses := true, apart := false }
def FnExactLeansOnSaid : Prop := fnExactLeansOnRow.holds Try.pinned (OpenSpec.ofChange fnExactLeansOnSpec)

/-- ITS FALSE NEIGHBOUR: 'it returns false'. Refute it at one input. -/
def fnExactLeansOnWrong : ChangeSpec := { name := "fnExactLeansOn", fn := fun _ => fun
  | [d1, d2] => { results := [.lit (.bool false)], args := [d1, d2] }
  | _ => none }
def FnExactLeansOnWrongFalsely : Prop := fnExactLeansOnRow.holds Try.pinned (OpenSpec.ofChange fnExactLeansOnWrong)

/-- 'laws.FnExactReachRoles': WHATEVER THE INPUT: true; the input reads as it did. -/
def fnExactReachRolesSpec : ChangeSpec := { name := "fnExactReachRoles", fn := fun _ => fun
  | [d1, d2] => { results := [.lit (.bool true)], args := [d1, d2] }
  | _ => none }
def fnExactReachRolesRow : OpenClaim := { program := "ytjpjidgfcljpcaa", sum := "6f400defc2dc84c6be3e836cc77b717f2b0b64b8aa844660e6b102a663811eb8", func := "loop.example/g00474/laws.FnExactReachRoles", spec := "fnExactReachRoles", unfollowed := true, recurses := true, apart := false }
def FnExactReachRolesSaid : Prop := fnExactReachRolesRow.holds Try.pinned (OpenSpec.ofChange fnExactReachRolesSpec)

/-- ITS FALSE NEIGHBOUR: 'it returns false'. Refute it at one input. -/
def fnExactReachRolesWrong : ChangeSpec := { name := "fnExactReachRoles", fn := fun _ => fun
  | [d1, d2] => { results := [.lit (.bool false)], args := [d1, d2] }
  | _ => none }
def FnExactReachRolesWrongFalsely : Prop := fnExactReachRolesRow.holds Try.pinned (OpenSpec.ofChange fnExactReachRolesWrong)

/-- 'laws.FnExactRoundRoles': WHATEVER THE INPUT: true; the input reads as it did. -/
def fnExactRoundRolesSpec : ChangeSpec := { name := "fnExactRoundRoles", fn := fun _ => fun
  | [d] => { results := [.lit (.bool true)], args := [d] }
  | _ => none }
def fnExactRoundRolesRow : OpenClaim := { program := "ytjpjidgfcljpcaa", sum := "6f400defc2dc84c6be3e836cc77b717f2b0b64b8aa844660e6b102a663811eb8", func := "loop.example/g00474/laws.FnExactRoundRoles", spec := "fnExactRoundRoles", unfollowed := true, recurses := true, apart := false }
def FnExactRoundRolesSaid : Prop := fnExactRoundRolesRow.holds Try.pinned (OpenSpec.ofChange fnExactRoundRolesSpec)

/-- ITS FALSE NEIGHBOUR: 'it returns false'. Refute it at one input. -/
def fnExactRoundRolesWrong : ChangeSpec := { name := "fnExactRoundRoles", fn := fun _ => fun
  | [d] => { results := [.lit (.bool false)], args := [d] }
  | _ => none }
def FnExactRoundRolesWrongFalsely : Prop := fnExactRoundRolesRow.holds Try.pinned (OpenSpec.ofChange fnExactRoundRolesWrong)

/-- 'laws.FnExactNeededFor': WHATEVER THE INPUT: true; the input reads as it did. -/
def fnExactNeededForSpec : ChangeSpec := { name := "fnExactNeededFor", fn := fun _ => fun
  | [d1, d2] => { results := [.lit (.bool true)], args := [d1, d2] }
  | _ => none }
def fnExactNeededForRow : OpenClaim := { program := "ytjpjidgfcljpcaa", sum := "6f400defc2dc84c6be3e836cc77b717f2b0b64b8aa844660e6b102a663811eb8", func := "loop.example/g00474/laws.FnExactNeededFor", spec := "fnExactNeededFor", unfollowed := true, recurses := true, apart := false }
def FnExactNeededForSaid : Prop := fnExactNeededForRow.holds Try.pinned (OpenSpec.ofChange fnExactNeededForSpec)

/-- ITS FALSE NEIGHBOUR: 'it returns false'. Refute it at one input. -/
def fnExactNeededForWrong : ChangeSpec := { name := "fnExactNeededFor", fn := fun _ => fun
  | [d1, d2] => { results := [.lit (.bool false)], args := [d1, d2] }
  | _ => none }
def FnExactNeededForWrongFalsely : Prop := fnExactNeededForRow.holds Try.pinned (OpenSpec.ofChange fnExactNeededForWrong)

/-- 'laws.FnExactSound': WHATEVER THE INPUT: true; the input reads as it did. -/
def fnExactSoundSpec : ChangeSpec := { name := "fnExactSound", fn := fun _ => fun
  | [d] => { results := [.lit (.bool true)], args := [d] }
  | _ => none }
def fnExactSoundRow : OpenClaim := { program := "ytjpjidgfcljpcaa", sum := "6f400defc2dc84c6be3e836cc77b717f2b0b64b8aa844660e6b102a663811eb8", func := "loop.example/g00474/laws.FnExactSound", spec := "fnExactSound", unfollowed := true, recurses := true, apart := false }
def FnExactSoundSaid : Prop := fnExactSoundRow.holds Try.pinned (OpenSpec.ofChange fnExactSoundSpec)

/-- ITS FALSE NEIGHBOUR: 'it returns false'. Refute it at one input. -/
def fnExactSoundWrong : ChangeSpec := { name := "fnExactSound", fn := fun _ => fun
  | [d] => { results := [.lit (.bool false)], args := [d] }
  | _ => none }
def FnExactSoundWrongFalsely : Prop := fnExactSoundRow.holds Try.pinned (OpenSpec.ofChange fnExactSoundWrong)

/- THE SECOND FORM. 'bulk': how many values and letters a reading holds, each counted each time it is reached (what is shared counts as often as it is met; a slice's spare places count too). A statement '..UptoSaid' is the law's where the arguments, and the package variables that the reading takes, are together of bulk at most 1048576: NARROWER than '..Said'. Prove '..Said' where nothing that the law and all that it calls make is longer than what came in: it says more and counts as full. Else prove '..UptoSaid'. A law counts once. -/
mutual
def uptoBulk {H : Type} : DataW H → Nat
  | .lit (.string bytes) => bytes.length + 1
  | .lit _ => 1
  | .nil => 1
  | .ptr d => uptoBulk d + 1
  | .slice elems spare => uptoBulkAll elems + uptoBulkAll spare + 1
  | .agg parts => uptoBulkAll parts + 1
  | .iface _ d => uptoBulk d + 1
  | .map entries => uptoBulkEntries entries + 1
  | .held _ => 1
def uptoBulkAll {H : Type} : List (DataW H) → Nat
  | [] => 0
  | d :: r => uptoBulk d + uptoBulkAll r
def uptoBulkEntries {H : Type} : List (Lit × DataW H) → Nat
  | [] => 0
  | x :: r => uptoBulkEntry x + uptoBulkEntries r
def uptoBulkEntry {H : Type} : Lit × DataW H → Nat
  | (.string bytes, d) => bytes.length + uptoBulk d + 1
  | (_, d) => uptoBulk d + 1
 end
def uptoSmall : (H : Type) → List (DataW H) → Bool := fun _ ds => decide (uptoBulkAll ds ≤ 1048576)
def OpenSpec.upto (s : _root_.Go.ChangeSpec) : _root_.Go.OpenSpec := { _root_.Go.OpenSpec.ofChange s with cond := some uptoSmall }

/-- 'laws.FnExactReadProof', WHERE WHAT IT READS IS OF BULK AT MOST 1048576: true; the input reads as it did. -/
def fnExactReadProofUptoRow : OpenClaim := { program := "ytjpjidgfcljpcaa", sum := "6f400defc2dc84c6be3e836cc77b717f2b0b64b8aa844660e6b102a663811eb8", func := "loop.example/g00474/laws.FnExactReadProof", spec := "fnExactReadProof", apart := false, narrowed := true }
def FnExactReadProofUptoSaid : Prop := fnExactReadProofUptoRow.holds Try.pinned (OpenSpec.upto fnExactReadProofSpec)

/-- 'laws.FnExactCostsOf', WHERE WHAT IT READS IS OF BULK AT MOST 1048576: true; the input reads as it did. -/
def fnExactCostsOfUptoRow : OpenClaim := { program := "ytjpjidgfcljpcaa", sum := "6f400defc2dc84c6be3e836cc77b717f2b0b64b8aa844660e6b102a663811eb8", func := "loop.example/g00474/laws.FnExactCostsOf", spec := "fnExactCostsOf", unfollowed := true, recurses := true, apart := false, narrowed := true }
def FnExactCostsOfUptoSaid : Prop := fnExactCostsOfUptoRow.holds Try.pinned (OpenSpec.upto fnExactCostsOfSpec)

/-- 'laws.FnExactEndsOf', WHERE WHAT IT READS IS OF BULK AT MOST 1048576: true; the input reads as it did. -/
def fnExactEndsOfUptoRow : OpenClaim := { program := "ytjpjidgfcljpcaa", sum := "6f400defc2dc84c6be3e836cc77b717f2b0b64b8aa844660e6b102a663811eb8", func := "loop.example/g00474/laws.FnExactEndsOf", spec := "fnExactEndsOf", recurses := true, apart := false, narrowed := true }
def FnExactEndsOfUptoSaid : Prop := fnExactEndsOfUptoRow.holds Try.pinned (OpenSpec.upto fnExactEndsOfSpec)

/-- 'laws.FnLeastEach', WHERE WHAT IT READS IS OF BULK AT MOST 1048576: true; the input reads as it did. -/
def fnLeastEachUptoRow : OpenClaim := { program := "ytjpjidgfcljpcaa", sum := "6f400defc2dc84c6be3e836cc77b717f2b0b64b8aa844660e6b102a663811eb8", func := "loop.example/g00474/laws.FnLeastEach", spec := "fnLeastEach", unfollowed := true, recurses := true, apart := false, narrowed := true }
def FnLeastEachUptoSaid : Prop := fnLeastEachUptoRow.holds Try.pinned (OpenSpec.upto fnLeastEachSpec)

/-- 'laws.FnPoliciesTold', WHERE WHAT IT READS IS OF BULK AT MOST 1048576: true; the input reads as it did. -/
def fnPoliciesToldUptoRow : OpenClaim := { program := "ytjpjidgfcljpcaa", sum := "6f400defc2dc84c6be3e836cc77b717f2b0b64b8aa844660e6b102a663811eb8", func := "loop.example/g00474/laws.FnPoliciesTold", spec := "fnPoliciesTold", unfollowed := true, recurses := true, apart := false, narrowed := true }
def FnPoliciesToldUptoSaid : Prop := fnPoliciesToldUptoRow.holds Try.pinned (OpenSpec.upto fnPoliciesToldSpec)

/-- 'laws.FnDays', WHERE WHAT IT READS IS OF BULK AT MOST 1048576: true; the input reads as it did. -/
def fnDaysUptoRow : OpenClaim := { program := "ytjpjidgfcljpcaa", sum := "6f400defc2dc84c6be3e836cc77b717f2b0b64b8aa844660e6b102a663811eb8", func := "loop.example/g00474/laws.FnDays", spec := "fnDays", unfollowed := true, recurses := true, apart := false, narrowed := true }
def FnDaysUptoSaid : Prop := fnDaysUptoRow.holds Try.pinned (OpenSpec.upto fnDaysSpec)

/-- 'laws.FnLeansRound', WHERE WHAT IT READS IS OF BULK AT MOST 1048576: true; the input reads as it did. -/
def fnLeansRoundUptoRow : OpenClaim := { program := "ytjpjidgfcljpcaa", sum := "6f400defc2dc84c6be3e836cc77b717f2b0b64b8aa844660e6b102a663811eb8", func := "loop.example/g00474/laws.FnLeansRound", spec := "fnLeansRound", unfollowed := true, recurses := true, apart := false, narrowed := true }
def FnLeansRoundUptoSaid : Prop := fnLeansRoundUptoRow.holds Try.pinned (OpenSpec.upto fnLeansRoundSpec)

/-- 'laws.FnExactLeansOn', WHERE WHAT IT READS IS OF BULK AT MOST 1048576: true; the input reads as it did. -/
def fnExactLeansOnUptoRow : OpenClaim := { program := "ytjpjidgfcljpcaa", sum := "6f400defc2dc84c6be3e836cc77b717f2b0b64b8aa844660e6b102a663811eb8", func := "loop.example/g00474/laws.FnExactLeansOn", spec := "fnExactLeansOn", unfollowed := true, recurses := true, apart := false, narrowed := true }
def FnExactLeansOnUptoSaid : Prop := fnExactLeansOnUptoRow.holds Try.pinned (OpenSpec.upto fnExactLeansOnSpec)

/-- 'laws.FnExactReachRoles', WHERE WHAT IT READS IS OF BULK AT MOST 1048576: true; the input reads as it did. -/
def fnExactReachRolesUptoRow : OpenClaim := { program := "ytjpjidgfcljpcaa", sum := "6f400defc2dc84c6be3e836cc77b717f2b0b64b8aa844660e6b102a663811eb8", func := "loop.example/g00474/laws.FnExactReachRoles", spec := "fnExactReachRoles", unfollowed := true, recurses := true, apart := false, narrowed := true }
def FnExactReachRolesUptoSaid : Prop := fnExactReachRolesUptoRow.holds Try.pinned (OpenSpec.upto fnExactReachRolesSpec)

/-- 'laws.FnExactRoundRoles', WHERE WHAT IT READS IS OF BULK AT MOST 1048576: true; the input reads as it did. -/
def fnExactRoundRolesUptoRow : OpenClaim := { program := "ytjpjidgfcljpcaa", sum := "6f400defc2dc84c6be3e836cc77b717f2b0b64b8aa844660e6b102a663811eb8", func := "loop.example/g00474/laws.FnExactRoundRoles", spec := "fnExactRoundRoles", unfollowed := true, recurses := true, apart := false, narrowed := true }
def FnExactRoundRolesUptoSaid : Prop := fnExactRoundRolesUptoRow.holds Try.pinned (OpenSpec.upto fnExactRoundRolesSpec)

/-- 'laws.FnExactNeededFor', WHERE WHAT IT READS IS OF BULK AT MOST 1048576: true; the input reads as it did. -/
def fnExactNeededForUptoRow : OpenClaim := { program := "ytjpjidgfcljpcaa", sum := "6f400defc2dc84c6be3e836cc77b717f2b0b64b8aa844660e6b102a663811eb8", func := "loop.example/g00474/laws.FnExactNeededFor", spec := "fnExactNeededFor", unfollowed := true, recurses := true, apart := false, narrowed := true }
def FnExactNeededForUptoSaid : Prop := fnExactNeededForUptoRow.holds Try.pinned (OpenSpec.upto fnExactNeededForSpec)

/-- 'laws.FnExactSound', WHERE WHAT IT READS IS OF BULK AT MOST 1048576: true; the input reads as it did. -/
def fnExactSoundUptoRow : OpenClaim := { program := "ytjpjidgfcljpcaa", sum := "6f400defc2dc84c6be3e836cc77b717f2b0b64b8aa844660e6b102a663811eb8", func := "loop.example/g00474/laws.FnExactSound", spec := "fnExactSound", unfollowed := true, recurses := true, apart := false, narrowed := true }
def FnExactSoundUptoSaid : Prop := fnExactSoundUptoRow.holds Try.pinned (OpenSpec.upto fnExactSoundSpec)

end Rows
end Go.Proofs.Ytjpjidgfcljpcaa
