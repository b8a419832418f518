/-
  NARROWER THAN 'FOR EVERY INPUT', by the rows' own cells (each row's printed sentence says how): AccrueDays: loops · AccrueSeries: loops · AccrueAdds: loops · AccrueOrder: loops · AccrueSides: loops.
  DERIVED. THE GIVEN ROWS OF THIS SEAT. 13 by the template 'for every input the law returns true; each argument reads behind the call as it read before'; 0 by the template 'total and deterministic' (their statements: YtlmabdiodopidaaTotals.lean).
  GIVEN WITH THE SEED: the statements are not yours to turn. If you find one false, say at which input.
  Laid BY PROGRAM, IN A SANDBOX (cutbox-rows.mjs): the forced cells as the released guide's own fill.sh prints them over the translation 6d50d59bc59f2db5… (all of the seat's roots in one cut). By AI agents, Wed Nov 11 2026. No macro, syntax, notation, axiom, sorry.
-/
import Derived.Test.YtlmabdiodopidaaChecked
import GoSem.Claim
import GoSem.ClaimJoined
import GoSem.ClaimMapViews
import Derived.JoinedTies
import Derived.KernelRfl
namespace Go.Proofs.Ytlmabdiodopidaa
/- THE CELL 'sum', in the pinned program and in every row, IS THE sha256 OF THE DUMP (.gsa) THAT YtlmabdiodopidaaProg.lean LOADS. Nothing in Lean hashes anything: it is a label: what it is worth is what the hold of that sum in a sandbox is worth. -/
noncomputable def Try.pinned : Pinned := { name := "ytlmabdiodopidaa", sum := "6d50d59bc59f2db5cdf42cccce5a7717b91ee196af519fd954e2bf2894b45458", checked := Try.checked }
namespace Rows
def none {H : Type} : Left H := { results := [], args := [] }

/-- 'corebanklaw14.TierChecks': WHATEVER THE INPUT: true; the input reads as it did. -/
def tierChecksSpec : ChangeSpec := { name := "tierChecks", fn := fun _ => fun
  | [d] => { results := [.lit (.bool true)], args := [d] }
  | _ => none }
def tierChecksRow : OpenClaim := { program := "ytlmabdiodopidaa", sum := "6d50d59bc59f2db5cdf42cccce5a7717b91ee196af519fd954e2bf2894b45458", func := "corebank/corebanklaw14.TierChecks", spec := "tierChecks", inPlace := ["math/bits.Add64"], unfollowed := true, recurses := true, apart := false }
def TierChecksSaid : Prop := tierChecksRow.holds Try.pinned (OpenSpec.ofChange tierChecksSpec)

/-- ITS FALSE NEIGHBOUR: 'it returns false'. Refute it at one input. -/
def tierChecksWrong : ChangeSpec := { name := "tierChecks", fn := fun _ => fun
  | [d] => { results := [.lit (.bool false)], args := [d] }
  | _ => none }
def TierChecksWrongFalsely : Prop := tierChecksRow.holds Try.pinned (OpenSpec.ofChange tierChecksWrong)

/-- 'corebanklaw14.TierRates': WHATEVER THE INPUT: true; the input reads as it did. -/
def tierRatesSpec : ChangeSpec := { name := "tierRates", fn := fun _ => fun
  | [d1, d2] => { results := [.lit (.bool true)], args := [d1, d2] }
  | _ => none }
def tierRatesRow : OpenClaim := { program := "ytlmabdiodopidaa", sum := "6d50d59bc59f2db5cdf42cccce5a7717b91ee196af519fd954e2bf2894b45458", func := "corebank/corebanklaw14.TierRates", spec := "tierRates", inPlace := ["math/bits.Add64"], unfollowed := true, recurses := true, apart := false }
def TierRatesSaid : Prop := tierRatesRow.holds Try.pinned (OpenSpec.ofChange tierRatesSpec)

/-- ITS FALSE NEIGHBOUR: 'it returns false'. Refute it at one input. -/
def tierRatesWrong : ChangeSpec := { name := "tierRates", fn := fun _ => fun
  | [d1, d2] => { results := [.lit (.bool false)], args := [d1, d2] }
  | _ => none }
def TierRatesWrongFalsely : Prop := tierRatesRow.holds Try.pinned (OpenSpec.ofChange tierRatesWrong)

/-- 'corebanklaw14.TierSlices': WHATEVER THE INPUT: true; the input reads as it did. -/
def tierSlicesSpec : ChangeSpec := { name := "tierSlices", fn := fun _ => fun
  | [d1, d2, d3] => { results := [.lit (.bool true)], args := [d1, d2, d3] }
  | _ => none }
def tierSlicesRow : OpenClaim := { program := "ytlmabdiodopidaa", sum := "6d50d59bc59f2db5cdf42cccce5a7717b91ee196af519fd954e2bf2894b45458", func := "corebank/corebanklaw14.TierSlices", spec := "tierSlices", inPlace := ["math/bits.Add64"], unfollowed := true, recurses := true, apart := false }
def TierSlicesSaid : Prop := tierSlicesRow.holds Try.pinned (OpenSpec.ofChange tierSlicesSpec)

/-- ITS FALSE NEIGHBOUR: 'it returns false'. Refute it at one input. -/
def tierSlicesWrong : ChangeSpec := { name := "tierSlices", fn := fun _ => fun
  | [d1, d2, d3] => { results := [.lit (.bool false)], args := [d1, d2, d3] }
  | _ => none }
def TierSlicesWrongFalsely : Prop := tierSlicesRow.holds Try.pinned (OpenSpec.ofChange tierSlicesWrong)

/-- 'corebanklaw14.TierGrains': WHATEVER THE INPUT: true; the input reads as it did. -/
def tierGrainsSpec : ChangeSpec := { name := "tierGrains", fn := fun _ => fun
  | [d1, d2] => { results := [.lit (.bool true)], args := [d1, d2] }
  | _ => none }
def tierGrainsRow : OpenClaim := { program := "ytlmabdiodopidaa", sum := "6d50d59bc59f2db5cdf42cccce5a7717b91ee196af519fd954e2bf2894b45458", func := "corebank/corebanklaw14.TierGrains", spec := "tierGrains", inPlace := ["math/bits.Add64"], unfollowed := true, recurses := true, apart := false }
def TierGrainsSaid : Prop := tierGrainsRow.holds Try.pinned (OpenSpec.ofChange tierGrainsSpec)

/-- ITS FALSE NEIGHBOUR: 'it returns false'. Refute it at one input. -/
def tierGrainsWrong : ChangeSpec := { name := "tierGrains", fn := fun _ => fun
  | [d1, d2] => { results := [.lit (.bool false)], args := [d1, d2] }
  | _ => none }
def TierGrainsWrongFalsely : Prop := tierGrainsRow.holds Try.pinned (OpenSpec.ofChange tierGrainsWrong)

/-- 'corebanklaw14.TierContinuous': WHATEVER THE INPUT: true; the input reads as it did. -/
def tierContinuousSpec : ChangeSpec := { name := "tierContinuous", fn := fun _ => fun
  | [d1, d2] => { results := [.lit (.bool true)], args := [d1, d2] }
  | _ => none }
def tierContinuousRow : OpenClaim := { program := "ytlmabdiodopidaa", sum := "6d50d59bc59f2db5cdf42cccce5a7717b91ee196af519fd954e2bf2894b45458", func := "corebank/corebanklaw14.TierContinuous", spec := "tierContinuous", inPlace := ["math/bits.Add64"], unfollowed := true, recurses := true, apart := false }
def TierContinuousSaid : Prop := tierContinuousRow.holds Try.pinned (OpenSpec.ofChange tierContinuousSpec)

/-- ITS FALSE NEIGHBOUR: 'it returns false'. Refute it at one input. -/
def tierContinuousWrong : ChangeSpec := { name := "tierContinuous", fn := fun _ => fun
  | [d1, d2] => { results := [.lit (.bool false)], args := [d1, d2] }
  | _ => none }
def TierContinuousWrongFalsely : Prop := tierContinuousRow.holds Try.pinned (OpenSpec.ofChange tierContinuousWrong)

/-- 'corebanklaw14.TierAdds': WHATEVER THE INPUT: true; the input reads as it did. -/
def tierAddsSpec : ChangeSpec := { name := "tierAdds", fn := fun _ => fun
  | [d1, d2, d3] => { results := [.lit (.bool true)], args := [d1, d2, d3] }
  | _ => none }
def tierAddsRow : OpenClaim := { program := "ytlmabdiodopidaa", sum := "6d50d59bc59f2db5cdf42cccce5a7717b91ee196af519fd954e2bf2894b45458", func := "corebank/corebanklaw14.TierAdds", spec := "tierAdds", inPlace := ["math/bits.Add64"], unfollowed := true, recurses := true, apart := false }
def TierAddsSaid : Prop := tierAddsRow.holds Try.pinned (OpenSpec.ofChange tierAddsSpec)

/-- ITS FALSE NEIGHBOUR: 'it returns false'. Refute it at one input. -/
def tierAddsWrong : ChangeSpec := { name := "tierAdds", fn := fun _ => fun
  | [d1, d2, d3] => { results := [.lit (.bool false)], args := [d1, d2, d3] }
  | _ => none }
def TierAddsWrongFalsely : Prop := tierAddsRow.holds Try.pinned (OpenSpec.ofChange tierAddsWrong)

/-- 'corebanklaw14.TierFlat': WHATEVER THE INPUT: true; the input reads as it did. -/
def tierFlatSpec : ChangeSpec := { name := "tierFlat", fn := fun _ => fun
  | [d1, d2, d3] => { results := [.lit (.bool true)], args := [d1, d2, d3] }
  | _ => none }
def tierFlatRow : OpenClaim := { program := "ytlmabdiodopidaa", sum := "6d50d59bc59f2db5cdf42cccce5a7717b91ee196af519fd954e2bf2894b45458", func := "corebank/corebanklaw14.TierFlat", spec := "tierFlat", inPlace := ["math/bits.Add64"], unfollowed := true, recurses := true, apart := false }
def TierFlatSaid : Prop := tierFlatRow.holds Try.pinned (OpenSpec.ofChange tierFlatSpec)

/-- ITS FALSE NEIGHBOUR: 'it returns false'. Refute it at one input. -/
def tierFlatWrong : ChangeSpec := { name := "tierFlat", fn := fun _ => fun
  | [d1, d2, d3] => { results := [.lit (.bool false)], args := [d1, d2, d3] }
  | _ => none }
def TierFlatWrongFalsely : Prop := tierFlatRow.holds Try.pinned (OpenSpec.ofChange tierFlatWrong)

/-- 'corebanklaw27.AccrueDays': WHATEVER THE INPUT: true; the input reads as it did. -/
def accrueDaysSpec : ChangeSpec := { name := "accrueDays", fn := fun _ => fun
  | [d1, d2, d3] => { results := [.lit (.bool true)], args := [d1, d2, d3] }
  | _ => none }
def accrueDaysRow : OpenClaim := { program := "ytlmabdiodopidaa", sum := "6d50d59bc59f2db5cdf42cccce5a7717b91ee196af519fd954e2bf2894b45458", func := "corebank/corebanklaw27.AccrueDays", spec := "accrueDays", inPlace := ["math/bits.Add64"], unfollowed := true, recurses := true, loops := true, apart := false }
def AccrueDaysSaid : Prop := accrueDaysRow.holds Try.pinned (OpenSpec.ofChange accrueDaysSpec)

/-- ITS FALSE NEIGHBOUR: 'it returns false'. Refute it at one input. -/
def accrueDaysWrong : ChangeSpec := { name := "accrueDays", fn := fun _ => fun
  | [d1, d2, d3] => { results := [.lit (.bool false)], args := [d1, d2, d3] }
  | _ => none }
def AccrueDaysWrongFalsely : Prop := accrueDaysRow.holds Try.pinned (OpenSpec.ofChange accrueDaysWrong)

/-- 'corebanklaw27.AccrueSeries': WHATEVER THE INPUT: true; the input reads as it did. -/
def accrueSeriesSpec : ChangeSpec := { name := "accrueSeries", fn := fun _ => fun
  | [d1, d2, d3, d4] => { results := [.lit (.bool true)], args := [d1, d2, d3, d4] }
  | _ => none }
def accrueSeriesRow : OpenClaim := { program := "ytlmabdiodopidaa", sum := "6d50d59bc59f2db5cdf42cccce5a7717b91ee196af519fd954e2bf2894b45458", func := "corebank/corebanklaw27.AccrueSeries", spec := "accrueSeries", inPlace := ["math/bits.Add64"], unfollowed := true, recurses := true, loops := true, apart := false }
def AccrueSeriesSaid : Prop := accrueSeriesRow.holds Try.pinned (OpenSpec.ofChange accrueSeriesSpec)

/-- ITS FALSE NEIGHBOUR: 'it returns false'. Refute it at one input. -/
def accrueSeriesWrong : ChangeSpec := { name := "accrueSeries", fn := fun _ => fun
  | [d1, d2, d3, d4] => { results := [.lit (.bool false)], args := [d1, d2, d3, d4] }
  | _ => none }
def AccrueSeriesWrongFalsely : Prop := accrueSeriesRow.holds Try.pinned (OpenSpec.ofChange accrueSeriesWrong)

/-- 'corebanklaw27.AccrueTotals': WHATEVER THE INPUT: true; the input reads as it did. -/
def accrueTotalsSpec : ChangeSpec := { name := "accrueTotals", fn := fun _ => fun
  | [d] => { results := [.lit (.bool true)], args := [d] }
  | _ => none }
def accrueTotalsRow : OpenClaim := { program := "ytlmabdiodopidaa", sum := "6d50d59bc59f2db5cdf42cccce5a7717b91ee196af519fd954e2bf2894b45458", func := "corebank/corebanklaw27.AccrueTotals", spec := "accrueTotals", inPlace := ["math/bits.Add64"], unfollowed := true, recurses := true, apart := false }
def AccrueTotalsSaid : Prop := accrueTotalsRow.holds Try.pinned (OpenSpec.ofChange accrueTotalsSpec)

/-- ITS FALSE NEIGHBOUR: 'it returns false'. Refute it at one input. -/
def accrueTotalsWrong : ChangeSpec := { name := "accrueTotals", fn := fun _ => fun
  | [d] => { results := [.lit (.bool false)], args := [d] }
  | _ => none }
def AccrueTotalsWrongFalsely : Prop := accrueTotalsRow.holds Try.pinned (OpenSpec.ofChange accrueTotalsWrong)

/-- 'corebanklaw27.AccrueAdds': WHATEVER THE INPUT: true; the input reads as it did. -/
def accrueAddsSpec : ChangeSpec := { name := "accrueAdds", fn := fun _ => fun
  | [d1, d2, d3, d4] => { results := [.lit (.bool true)], args := [d1, d2, d3, d4] }
  | _ => none }
def accrueAddsRow : OpenClaim := { program := "ytlmabdiodopidaa", sum := "6d50d59bc59f2db5cdf42cccce5a7717b91ee196af519fd954e2bf2894b45458", func := "corebank/corebanklaw27.AccrueAdds", spec := "accrueAdds", inPlace := ["math/bits.Add64"], unfollowed := true, recurses := true, loops := true, apart := false }
def AccrueAddsSaid : Prop := accrueAddsRow.holds Try.pinned (OpenSpec.ofChange accrueAddsSpec)

/-- ITS FALSE NEIGHBOUR: 'it returns false'. Refute it at one input. -/
def accrueAddsWrong : ChangeSpec := { name := "accrueAdds", fn := fun _ => fun
  | [d1, d2, d3, d4] => { results := [.lit (.bool false)], args := [d1, d2, d3, d4] }
  | _ => none }
def AccrueAddsWrongFalsely : Prop := accrueAddsRow.holds Try.pinned (OpenSpec.ofChange accrueAddsWrong)

/-- 'corebanklaw27.AccrueOrder': WHATEVER THE INPUT: true; the input reads as it did. -/
def accrueOrderSpec : ChangeSpec := { name := "accrueOrder", fn := fun _ => fun
  | [d1, d2, d3, d4] => { results := [.lit (.bool true)], args := [d1, d2, d3, d4] }
  | _ => none }
def accrueOrderRow : OpenClaim := { program := "ytlmabdiodopidaa", sum := "6d50d59bc59f2db5cdf42cccce5a7717b91ee196af519fd954e2bf2894b45458", func := "corebank/corebanklaw27.AccrueOrder", spec := "accrueOrder", inPlace := ["math/bits.Add64"], unfollowed := true, recurses := true, loops := true, apart := false }
def AccrueOrderSaid : Prop := accrueOrderRow.holds Try.pinned (OpenSpec.ofChange accrueOrderSpec)

/-- ITS FALSE NEIGHBOUR: 'it returns false'. Refute it at one input. -/
def accrueOrderWrong : ChangeSpec := { name := "accrueOrder", fn := fun _ => fun
  | [d1, d2, d3, d4] => { results := [.lit (.bool false)], args := [d1, d2, d3, d4] }
  | _ => none }
def AccrueOrderWrongFalsely : Prop := accrueOrderRow.holds Try.pinned (OpenSpec.ofChange accrueOrderWrong)

/-- 'corebanklaw27.AccrueSides': WHATEVER THE INPUT: true; the input reads as it did. -/
def accrueSidesSpec : ChangeSpec := { name := "accrueSides", fn := fun _ => fun
  | [d1, d2, d3] => { results := [.lit (.bool true)], args := [d1, d2, d3] }
  | _ => none }
def accrueSidesRow : OpenClaim := { program := "ytlmabdiodopidaa", sum := "6d50d59bc59f2db5cdf42cccce5a7717b91ee196af519fd954e2bf2894b45458", func := "corebank/corebanklaw27.AccrueSides", spec := "accrueSides", inPlace := ["math/bits.Add64"], unfollowed := true, recurses := true, loops := true, apart := false }
def AccrueSidesSaid : Prop := accrueSidesRow.holds Try.pinned (OpenSpec.ofChange accrueSidesSpec)

/-- ITS FALSE NEIGHBOUR: 'it returns false'. Refute it at one input. -/
def accrueSidesWrong : ChangeSpec := { name := "accrueSides", fn := fun _ => fun
  | [d1, d2, d3] => { results := [.lit (.bool false)], args := [d1, d2, d3] }
  | _ => none }
def AccrueSidesWrongFalsely : Prop := accrueSidesRow.holds Try.pinned (OpenSpec.ofChange accrueSidesWrong)

/- THE SECOND FORM. 'bulk': how many values and letters a reading holds, each counted each time it is reached (what is shared counts as often as it is met; a slice's spare places count too). A statement '..UptoSaid' is the law's where the arguments, and the package variables that the reading takes, are together of bulk at most 1048576: NARROWER than '..Said'. Prove '..Said' where nothing that the law and all that it calls make is longer than what came in: it says more and counts as full. Else prove '..UptoSaid'. A law counts once. -/
mutual
def uptoBulk {H : Type} : DataW H → Nat
  | .lit (.string bytes) => bytes.length + 1
  | .lit _ => 1
  | .nil => 1
  | .ptr d => uptoBulk d + 1
  | .slice elems spare => uptoBulkAll elems + uptoBulkAll spare + 1
  | .agg parts => uptoBulkAll parts + 1
  | .iface _ d => uptoBulk d + 1
  | .map entries => uptoBulkEntries entries + 1
  | .held _ => 1
def uptoBulkAll {H : Type} : List (DataW H) → Nat
  | [] => 0
  | d :: r => uptoBulk d + uptoBulkAll r
def uptoBulkEntries {H : Type} : List (Lit × DataW H) → Nat
  | [] => 0
  | x :: r => uptoBulkEntry x + uptoBulkEntries r
def uptoBulkEntry {H : Type} : Lit × DataW H → Nat
  | (.string bytes, d) => bytes.length + uptoBulk d + 1
  | (_, d) => uptoBulk d + 1
 end
def uptoSmall : (H : Type) → List (DataW H) → Bool := fun _ ds => decide (uptoBulkAll ds ≤ 1048576)
def OpenSpec.upto (s : _root_.Go.ChangeSpec) : _root_.Go.OpenSpec := { _root_.Go.OpenSpec.ofChange s with cond := some uptoSmall }

/-- 'corebanklaw14.TierChecks', WHERE WHAT IT READS IS OF BULK AT MOST 1048576: true; the input reads as it did. -/
def tierChecksUptoRow : OpenClaim := { program := "ytlmabdiodopidaa", sum := "6d50d59bc59f2db5cdf42cccce5a7717b91ee196af519fd954e2bf2894b45458", func := "corebank/corebanklaw14.TierChecks", spec := "tierChecks", inPlace := ["math/bits.Add64"], unfollowed := true, recurses := true, apart := false, narrowed := true }
def TierChecksUptoSaid : Prop := tierChecksUptoRow.holds Try.pinned (OpenSpec.upto tierChecksSpec)

/-- 'corebanklaw14.TierRates', WHERE WHAT IT READS IS OF BULK AT MOST 1048576: true; the input reads as it did. -/
def tierRatesUptoRow : OpenClaim := { program := "ytlmabdiodopidaa", sum := "6d50d59bc59f2db5cdf42cccce5a7717b91ee196af519fd954e2bf2894b45458", func := "corebank/corebanklaw14.TierRates", spec := "tierRates", inPlace := ["math/bits.Add64"], unfollowed := true, recurses := true, apart := false, narrowed := true }
def TierRatesUptoSaid : Prop := tierRatesUptoRow.holds Try.pinned (OpenSpec.upto tierRatesSpec)

/-- 'corebanklaw14.TierSlices', WHERE WHAT IT READS IS OF BULK AT MOST 1048576: true; the input reads as it did. -/
def tierSlicesUptoRow : OpenClaim := { program := "ytlmabdiodopidaa", sum := "6d50d59bc59f2db5cdf42cccce5a7717b91ee196af519fd954e2bf2894b45458", func := "corebank/corebanklaw14.TierSlices", spec := "tierSlices", inPlace := ["math/bits.Add64"], unfollowed := true, recurses := true, apart := false, narrowed := true }
def TierSlicesUptoSaid : Prop := tierSlicesUptoRow.holds Try.pinned (OpenSpec.upto tierSlicesSpec)

/-- 'corebanklaw14.TierGrains', WHERE WHAT IT READS IS OF BULK AT MOST 1048576: true; the input reads as it did. -/
def tierGrainsUptoRow : OpenClaim := { program := "ytlmabdiodopidaa", sum := "6d50d59bc59f2db5cdf42cccce5a7717b91ee196af519fd954e2bf2894b45458", func := "corebank/corebanklaw14.TierGrains", spec := "tierGrains", inPlace := ["math/bits.Add64"], unfollowed := true, recurses := true, apart := false, narrowed := true }
def TierGrainsUptoSaid : Prop := tierGrainsUptoRow.holds Try.pinned (OpenSpec.upto tierGrainsSpec)

/-- 'corebanklaw14.TierContinuous', WHERE WHAT IT READS IS OF BULK AT MOST 1048576: true; the input reads as it did. -/
def tierContinuousUptoRow : OpenClaim := { program := "ytlmabdiodopidaa", sum := "6d50d59bc59f2db5cdf42cccce5a7717b91ee196af519fd954e2bf2894b45458", func := "corebank/corebanklaw14.TierContinuous", spec := "tierContinuous", inPlace := ["math/bits.Add64"], unfollowed := true, recurses := true, apart := false, narrowed := true }
def TierContinuousUptoSaid : Prop := tierContinuousUptoRow.holds Try.pinned (OpenSpec.upto tierContinuousSpec)

/-- 'corebanklaw14.TierAdds', WHERE WHAT IT READS IS OF BULK AT MOST 1048576: true; the input reads as it did. -/
def tierAddsUptoRow : OpenClaim := { program := "ytlmabdiodopidaa", sum := "6d50d59bc59f2db5cdf42cccce5a7717b91ee196af519fd954e2bf2894b45458", func := "corebank/corebanklaw14.TierAdds", spec := "tierAdds", inPlace := ["math/bits.Add64"], unfollowed := true, recurses := true, apart := false, narrowed := true }
def TierAddsUptoSaid : Prop := tierAddsUptoRow.holds Try.pinned (OpenSpec.upto tierAddsSpec)

/-- 'corebanklaw14.TierFlat', WHERE WHAT IT READS IS OF BULK AT MOST 1048576: true; the input reads as it did. -/
def tierFlatUptoRow : OpenClaim := { program := "ytlmabdiodopidaa", sum := "6d50d59bc59f2db5cdf42cccce5a7717b91ee196af519fd954e2bf2894b45458", func := "corebank/corebanklaw14.TierFlat", spec := "tierFlat", inPlace := ["math/bits.Add64"], unfollowed := true, recurses := true, apart := false, narrowed := true }
def TierFlatUptoSaid : Prop := tierFlatUptoRow.holds Try.pinned (OpenSpec.upto tierFlatSpec)

/-- 'corebanklaw27.AccrueDays', WHERE WHAT IT READS IS OF BULK AT MOST 1048576: true; the input reads as it did. -/
def accrueDaysUptoRow : OpenClaim := { program := "ytlmabdiodopidaa", sum := "6d50d59bc59f2db5cdf42cccce5a7717b91ee196af519fd954e2bf2894b45458", func := "corebank/corebanklaw27.AccrueDays", spec := "accrueDays", inPlace := ["math/bits.Add64"], unfollowed := true, recurses := true, loops := true, apart := false, narrowed := true }
def AccrueDaysUptoSaid : Prop := accrueDaysUptoRow.holds Try.pinned (OpenSpec.upto accrueDaysSpec)

/-- 'corebanklaw27.AccrueSeries', WHERE WHAT IT READS IS OF BULK AT MOST 1048576: true; the input reads as it did. -/
def accrueSeriesUptoRow : OpenClaim := { program := "ytlmabdiodopidaa", sum := "6d50d59bc59f2db5cdf42cccce5a7717b91ee196af519fd954e2bf2894b45458", func := "corebank/corebanklaw27.AccrueSeries", spec := "accrueSeries", inPlace := ["math/bits.Add64"], unfollowed := true, recurses := true, loops := true, apart := false, narrowed := true }
def AccrueSeriesUptoSaid : Prop := accrueSeriesUptoRow.holds Try.pinned (OpenSpec.upto accrueSeriesSpec)

/-- 'corebanklaw27.AccrueTotals', WHERE WHAT IT READS IS OF BULK AT MOST 1048576: true; the input reads as it did. -/
def accrueTotalsUptoRow : OpenClaim := { program := "ytlmabdiodopidaa", sum := "6d50d59bc59f2db5cdf42cccce5a7717b91ee196af519fd954e2bf2894b45458", func := "corebank/corebanklaw27.AccrueTotals", spec := "accrueTotals", inPlace := ["math/bits.Add64"], unfollowed := true, recurses := true, apart := false, narrowed := true }
def AccrueTotalsUptoSaid : Prop := accrueTotalsUptoRow.holds Try.pinned (OpenSpec.upto accrueTotalsSpec)

/-- 'corebanklaw27.AccrueAdds', WHERE WHAT IT READS IS OF BULK AT MOST 1048576: true; the input reads as it did. -/
def accrueAddsUptoRow : OpenClaim := { program := "ytlmabdiodopidaa", sum := "6d50d59bc59f2db5cdf42cccce5a7717b91ee196af519fd954e2bf2894b45458", func := "corebank/corebanklaw27.AccrueAdds", spec := "accrueAdds", inPlace := ["math/bits.Add64"], unfollowed := true, recurses := true, loops := true, apart := false, narrowed := true }
def AccrueAddsUptoSaid : Prop := accrueAddsUptoRow.holds Try.pinned (OpenSpec.upto accrueAddsSpec)

/-- 'corebanklaw27.AccrueOrder', WHERE WHAT IT READS IS OF BULK AT MOST 1048576: true; the input reads as it did. -/
def accrueOrderUptoRow : OpenClaim := { program := "ytlmabdiodopidaa", sum := "6d50d59bc59f2db5cdf42cccce5a7717b91ee196af519fd954e2bf2894b45458", func := "corebank/corebanklaw27.AccrueOrder", spec := "accrueOrder", inPlace := ["math/bits.Add64"], unfollowed := true, recurses := true, loops := true, apart := false, narrowed := true }
def AccrueOrderUptoSaid : Prop := accrueOrderUptoRow.holds Try.pinned (OpenSpec.upto accrueOrderSpec)

/-- 'corebanklaw27.AccrueSides', WHERE WHAT IT READS IS OF BULK AT MOST 1048576: true; the input reads as it did. -/
def accrueSidesUptoRow : OpenClaim := { program := "ytlmabdiodopidaa", sum := "6d50d59bc59f2db5cdf42cccce5a7717b91ee196af519fd954e2bf2894b45458", func := "corebank/corebanklaw27.AccrueSides", spec := "accrueSides", inPlace := ["math/bits.Add64"], unfollowed := true, recurses := true, loops := true, apart := false, narrowed := true }
def AccrueSidesUptoSaid : Prop := accrueSidesUptoRow.holds Try.pinned (OpenSpec.upto accrueSidesSpec)

end Rows
end Go.Proofs.Ytlmabdiodopidaa
