/- The pure side of TierRates: tier.Rate and its reference give one rate. -/
import Derived.Test.YtlmabdiodopidaaPx22
import Derived.Test.YtlmabdiodopidaaPureT
namespace Go.Proofs.Ytlmabdiodopidaa.Pure
open Go.RowKit Go.Proofs.Ytlmabdiodopidaa.G Go.Proofs.Ytlmabdiodopidaa.P
theorem TierRates (l0 : List S50) (a1 : Int) (_ : okL (fun y_ => wf50 y_) l0) (h1 : okN .i64 a1) : ∃ k, corebanklaw14_TierRates.f k l0 a1 = some true := by
  refine ⟨20, ?_⟩
  unfold corebanklaw14_TierRates.f
  rw [ref_Rate_eq (by omega) (okN_i64.1 h1), tier_Rate_eq (by omega) (okN_i64.1 h1)]
  split <;> simp [corebanklaw14_live.f]
end Go.Proofs.Ytlmabdiodopidaa.Pure
