import Derived.Lib.Bytealg
import Derived.Test.YtkimdmdkldlhpaaKCPAx0
namespace Go.Proofs.Ytkimdmdkldlhpaa.PA
open Go.RowKit Go.Proofs.YtkimdmdkldlhpaaW.PrintWords Go.Proofs.YtkimdmdkldlhpaaW.PrintLast Go.Proofs.YtkimdmdkldlhpaaW.PrintMore
set_option linter.unusedVariables false
def FnOk61 (q : S61 → Option Bool) (n : Nat) (g : Array Value) (W : World) : Prop := (∀ args w, (callFunc n args).run Try.prog w = .ok (.enter n args) w) ∧ ∀ (x : S61) (A1 : Option Addr) (c1 : Nat) r, q x = some r → Calls Try.prog n (#[.agg #[.int .i64 x.f0, .slice A1 x.f1.length c1]] ++ g) W fun e w' => e = .returned (.bool r) ∧ Below W.heap.size W w'
def FnOk42 (q : S42 → Option Bool) (n : Nat) (g : Array Value) (W : World) : Prop := (∀ args w, (callFunc n args).run Try.prog w = .ok (.enter n args) w) ∧ ∀ (x : S42) (A3 : Option Addr) (c3 : Nat) (A4 : Option Addr) (c4 : Nat) (A5 : Option Addr) (c5 : Nat) r, q x = some r → Calls Try.prog n (#[.agg #[.int .i64 x.f0, .bool x.f1, .int .i64 x.f2, .slice A3 x.f3.length c3, .slice A4 x.f4.length c4, .slice A5 x.f5.length c5]] ++ g) W fun e w' => e = .returned (.bool r) ∧ Below W.heap.size W w'
def FnOk252 (q : S52 → S52 → Option Int) (n : Nat) (g : Array Value) (W : World) : Prop := (∀ args w, (callFunc n args).run Try.prog w = .ok (.enter n args) w) ∧ ∀ (x y : S52) r, q x y = some r → Calls Try.prog n (#[.agg #[.string x.f0, .bool x.f1], .agg #[.string y.f0, .bool y.f1]] ++ g) W fun e w' => e = .returned (.int .i64 r) ∧ Below W.heap.size W w'
theorem goesw_ {P : Program} {ops : Array Oper} {Q : Exit → Act → World → Prop} {oi : Oper} {N : Option Tmp} {a : Act} {w : World} {K : Act → World → Prop} {f : FuncId} {c : Tmp} {as_ : Array Operand} {ts : Array TypeId} {lb : Array Value} (he : ∀ args w, (callFunc f args).run P w = .ok (.enter f args) w) (args : Array Value)
    (hw : Region.wanted oi (yielded ops a.tmps) = true) (hN : oi.dst = N) (hop : oi.op = .call { callee := .value (.tmp c), args := as_, argTypes := ts }) (hc : a.eval (.tmp c) = .func (.func f) #[] lb) (hargs : as_.map a.eval = args)
    (h : Calls P f (args ++ lb) w fun e w' => ∃ v, e = .returned v ∧ K (a.put N v) w') : if Region.wanted oi (yielded ops a.tmps) = true then Oper.wp P oi a w K Q else K (a.put N undef) w := by
  refine call_ f (args ++ lb) hw hN ?_ h
  have he := he (args ++ lb) w
  unfold execOp
  simp [hop, resolve, Deferred.ofValue, invoke, hargs, he, hc]
def hereB (i : Int) (p : S42) : Bool := p.f1 && p.f0 == i
def clo40 (i : Int) (s : S61) : Option Bool := some (s.f0 == i)
def clo56 (i : Int) (p : S42) : Option Bool := some (hereB i p)
def clo53 (x y : S52) : Option Int := some (Lib.compareBytes x.f0.data.toList y.f0.data.toList)
end Go.Proofs.Ytkimdmdkldlhpaa.PA
