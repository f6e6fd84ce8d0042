import Derived.Test.YteppfdkfikeclaaKRWTab
-- Out of the words that the kit's print wrote for this seat: cut down by the session's own program (wip/tools/slice.py) to what this claim needs. Lean checks it.
namespace Go.Proofs.YteppfdkfikeclaaW.PrintLast
/-- Number i is listed too. -/
def up (b : Nat → Bool) (i : Nat) : Nat → Bool := fun j => if j = i then true else b j
section
variable {P : Program} {ops : Array Oper} {Q : Exit → Act → World → Prop} {md : Region.Mode} {T : Bool × List (List Nat × List Nat)} {B : List Nat} {O : List Nat} {b : Nat → Bool} {i j n : Nat}
end
end Go.Proofs.YteppfdkfikeclaaW.PrintLast
