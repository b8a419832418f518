/- The pure side of TierChecks: tier.Check and its reference give one code. -/
import Derived.Test.YtlmabdiodopidaaPx19
import Derived.Test.YtlmabdiodopidaaPureT
namespace Go.Proofs.Ytlmabdiodopidaa.Pure
open Go.RowKit Go.Proofs.Ytlmabdiodopidaa.G Go.Proofs.Ytlmabdiodopidaa.P
theorem TierChecks (l0 : List S50) (_ : okL (fun y_ => wf50 y_) l0) : ∃ k, corebanklaw14_TierChecks.f k l0 = some true := by
  refine ⟨20, ?_⟩
  unfold corebanklaw14_TierChecks.f tier_Check.f
  rw [ref_Check_eq (by omega)]
  split <;> simp [corebanklaw14_live.f]
end Go.Proofs.Ytlmabdiodopidaa.Pure
