/-
Lists of words and of facts as the laws hand them on, compare and mark them; who is alive; members, and what holds at a time.
-/
import Derived.Test.YtcbhmcpdnokbiaaKLPAx14
import Derived.Test.YtcbhmcpdnokbiaaKLPAx18
import Derived.Test.YtcbhmcpdnokbiaaKLQ14
namespace Go.Proofs.Ytcbhmcpdnokbiaa
open Go.RowKit Go.Proofs.YtcbhmcpdnokbiaaW.PrintWords Go.Proofs.YtcbhmcpdnokbiaaW.PrintLast Go.Proofs.YtcbhmcpdnokbiaaW.PrintMore Go.Proofs.Ytcbhmcpdnokbiaa.PA
set_option linter.unusedVariables false
set_option linter.unusedSimpArgs false
namespace Q
def aliveC (now : Int) (l : List Cr) : List Cr := l.filter fun c => cOk c && decide (c.f5 ≥ now)
def memF (l : List Cr) (r : Rl) (w : Int) : Bool := decide ((⟨r, w⟩ : Fc) ∈ factsF l)
theorem spec_Mem (l : List Cr) (h : l.length ≤ 1048576) (a b w : Int) : Ev (fun k => spec_IsMember.f k l a b w) (memF l ⟨a, b⟩ w) := by
 unfold spec_IsMember.f
 refine Ev.bind (spec_Facts l h) ?_
 have := factsF_len l
 refine Ev.bind (spec_hasF (factsF l) a b w (by omega)) ?_
 exact Ev.now _
theorem impl_Mem (l : List Cr) (h : l.length ≤ 1048576) (a b w : Int) : Ev (fun k => impl_IsMember.f k l a b w) (memF l ⟨a, b⟩ w) := by
 unfold impl_IsMember.f
 refine Ev.bind (impl_Facts l h) ?_
 have := factsF_len l
 refine Ev.bind (containsF (factsF l) a b w (by omega)) ?_
 exact Ev.now _
def holdsC (l : List Cr) (r : Rl) (w now : Int) : Bool := memF (aliveC now l) r w
end Q
end Go.Proofs.Ytcbhmcpdnokbiaa
