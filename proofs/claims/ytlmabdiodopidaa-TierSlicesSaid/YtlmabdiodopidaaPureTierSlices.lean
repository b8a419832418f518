/- The pure side of TierSlices: tier.Slices and its reference give one list. -/
import Derived.Test.YtlmabdiodopidaaPx24
import Derived.Test.YtlmabdiodopidaaPureT
namespace Go.Proofs.Ytlmabdiodopidaa.Pure
open Go.RowKit Go.Proofs.Ytlmabdiodopidaa.G Go.Proofs.Ytlmabdiodopidaa.P
theorem TierSlices (l0 : List S50) (a1 : Bool) (a2 : Int) (_ : okL (fun y_ => wf50 y_) l0) (h1 : okN .i64 a2) : ∃ k, corebanklaw14_TierSlices.f k l0 a1 a2 = some true := by
  refine ⟨30, ?_⟩
  unfold corebanklaw14_TierSlices.f
  have hl := slicesB_len l0 a1 a2
  rw [ref_Slices_eq (by omega) (okN_i64.1 h1), tier_Slices_eq (by omega) (okN_i64.1 h1)]
  simp only [Option.bind_some]
  rw [ref_Same_eq (by omega) (by omega)]
  split <;> simp [corebanklaw14_live.f]
end Go.Proofs.Ytlmabdiodopidaa.Pure
