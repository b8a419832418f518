/- Small plain lemmas on numbers. -/
import Derived.Test.YtlmabdiodopidaaBits
import Derived.Test.YtlmabdiodopidaaOpen
namespace Go.Proofs.Ytlmabdiodopidaa.G
open Go.RowKit
theorem wrap64_of {x : Int} (h : okI x) : wrap64 x = x := by unfold okI at h; unfold wrap64; omega
theorem w64 {x : Int} (h1 : -9223372036854775808 ≤ x) (h2 : x < 9223372036854775808) : wrap64 x = x := by unfold wrap64; omega
theorem step1 {k n : Nat} (h : n + 1 ≤ k) : ∃ m, k = m + 1 ∧ n ≤ m := ⟨k - 1, by omega, by omega⟩
theorem okN_i64 {n : Int} : okN .i64 n ↔ okI n := by
  unfold okN okI Lit.wf
  simp [IntKind.min, IntKind.max, IntKind.signed, IntKind.bits]
  omega
end Go.Proofs.Ytlmabdiodopidaa.G
