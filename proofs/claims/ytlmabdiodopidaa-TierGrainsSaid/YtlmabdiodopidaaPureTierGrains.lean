/- The pure side of TierGrains: tier.Grains and its reference answer alike. -/
import Derived.Test.YtlmabdiodopidaaPx25
import Derived.Test.YtlmabdiodopidaaPureH
import Derived.Test.YtlmabdiodopidaaTypes
namespace Go.Proofs.Ytlmabdiodopidaa.Pure
open Go.RowKit Go.Proofs.Ytlmabdiodopidaa.G Go.Proofs.Ytlmabdiodopidaa.P
theorem okS_of {l : List S43} (h : okL (fun y_ => wf43 y_) l) : ∀ s ∈ l, okS s := fun s hs => by
  obtain ⟨h1, h2⟩ := h.2 s hs
  exact ⟨okN_i64.1 h1, okN_i64.1 h2⟩
theorem TierGrains (l0 : List S43) (a1 : Int) (h0 : okL (fun y_ => wf43 y_) l0) (_ : okN .i64 a1) : ∃ k, corebanklaw14_TierGrains.f k l0 a1 = some true := by
  refine ⟨100, ?_⟩
  unfold corebanklaw14_TierGrains.f
  rw [tier_Grains_eq (by omega) (okS_of h0), ref_Grains_eq (by omega) (okS_of h0)]
  simp [corebanklaw14_live.f]
end Go.Proofs.Ytlmabdiodopidaa.Pure
