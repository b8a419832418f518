/- corebanklaw14.live answers true. -/
import Derived.Test.YtlmabdiodopidaaPx14
namespace Go.Proofs.Ytlmabdiodopidaa.G
open Go.RowKit Go.Proofs.Ytlmabdiodopidaa.P
def corebanklaw14_live.f : Option Bool := some true
theorem live14_true : corebanklaw14_liveT.f 100 = some true := by decide +kernel
theorem corebanklaw14_live.calls (r : Bool) (w : World) (h : corebanklaw14_live.f = some r) : Calls Try.prog 18 #[] w fun e w' => e = .returned (.bool r) ∧ Below w.heap.size w w' := by
  have e : true = r := Option.some.inj h
  subst e
  exact corebanklaw14_liveT.calls 100 true w rfl live14_true
end Go.Proofs.Ytlmabdiodopidaa.G
