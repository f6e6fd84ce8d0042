import Derived.Test.YteofimccoadmeaaGreatKWPAx0
namespace Go.Proofs.YteofimccoadmeaaGreat.PA
open Go.RowKit Go.Proofs.YteofimccoadmeaaGreatW.PrintWords Go.Proofs.YteofimccoadmeaaGreatW.PrintLast Go.Proofs.YteofimccoadmeaaGreatW.PrintMore
set_option linter.unusedVariables false
abbrev aggC (x : S83) : Value := .agg #[.int .i64 x.f0, .int .i64 x.f1.f0, .int .i64 x.f1.f1, .int .i64 x.f2, .int .i64 x.f3.f0, .int .i64 x.f3.f1, .int .i64 x.f4.f0, .int .i64 x.f4.f1, .int .i64 x.f5, .int .i64 x.f6]
def FnOkI (q : Int → Option Bool) (n : Nat) (g : Array Value) (W : World) : Prop := (∀ args w, (callFunc n args).run Tryz.prog w = .ok (.enter n args) w) ∧ ∀ x r, q x = some r → Calls Tryz.prog n (#[.int .i64 x] ++ g) W fun e w' => e = .returned (.bool r) ∧ Below W.heap.size W w'
def FnOk83 (q : S83 → Option Bool) (n : Nat) (g : Array Value) (W : World) : Prop := (∀ args w, (callFunc n args).run Tryz.prog w = .ok (.enter n args) w) ∧ ∀ x r, q x = some r → Calls Tryz.prog n (#[aggC x] ++ g) W fun e w' => e = .returned (.bool r) ∧ Below W.heap.size W w'
def FnOk68 (q : S68 → Option Bool) (n : Nat) (g : Array Value) (W : World) : Prop := (∀ args w, (callFunc n args).run Tryz.prog w = .ok (.enter n args) w) ∧ ∀ (x : S68) (A3 : Option Addr) (c3 : Nat) (A4 : Option Addr) (c4 : Nat) (A5 : Option Addr) (c5 : Nat) r, q x = some r → Calls Tryz.prog n (#[.agg #[.int .i64 x.f0, .bool x.f1, .int .i64 x.f2, .slice A3 x.f3.length c3, .slice A4 x.f4.length c4, .slice A5 x.f5.length c5]] ++ g) W fun e w' => e = .returned (.bool r) ∧ Below W.heap.size W w'
def isC (x y : S83) : Bool := (x.f0 == y.f0 && ((x.f1.f0 == y.f1.f0 && (x.f1.f1 == y.f1.f1)) && (x.f2 == y.f2 && ((x.f3.f0 == y.f3.f0 && (x.f3.f1 == y.f3.f1)) && ((x.f4.f0 == y.f4.f0 && (x.f4.f1 == y.f4.f1)) && (x.f5 == y.f5 && (x.f6 == y.f6)))))))
def plB (x : Int) : Bool := decide (0 ≤ x) && decide (x ≤ 255)
def hereB (i : Int) (p : S68) : Bool := p.f1 && p.f0 == i
def clo50 (l : List S83) (x : S83) : Option Bool := if l.length ≤ 1048576 then some (!(l.any fun y => isC x y)) else none
def clo67 (i x : Int) : Option Bool := some (!plB x || x == i)
def clo68 (x : Int) : Option Bool := some (!(x == -1) && !plB x)
def clo70 (l : List S68) (x : Int) : Option Bool := if l.length ≤ 1048576 then some (l.any (hereB x)) else none
def clo87 (i : Int) (p : S68) : Option Bool := some (hereB i p)
def clo45 (i : Int) (p : S68) : Option Bool := some (p.f0 == i)
end Go.Proofs.YteofimccoadmeaaGreat.PA
