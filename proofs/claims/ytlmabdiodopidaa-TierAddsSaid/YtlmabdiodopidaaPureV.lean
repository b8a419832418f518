/- What the printed functions of package wide compute, as numbers. -/
import Derived.Test.YtlmabdiodopidaaLeaf
import Derived.Test.YtlmabdiodopidaaOpen
import Derived.Test.YtlmabdiodopidaaPx11
import Derived.Test.YtlmabdiodopidaaPx10
import Derived.Laws.BitsAllLaws
namespace Go.Proofs.Ytlmabdiodopidaa.G
open Go.RowKit Go.Proofs.Ytlmabdiodopidaa.P Go.Proofs.YtlmabdiodopidaaW.PrintWords

theorem absI_nonneg (x : Int) : 0 ≤ absI x := by unfold absI; split <;> omega
theorem wide_abs_eq {n : Int} (h : okI n) : wide_abs.f n = some (absI n) := by
  unfold okI at h
  unfold wide_abs.f absI
  split
  · simp only [IntKind.wrap_u64, Option.some.injEq]; omega
  · simp only [IntKind.wrap_u64, Option.some.injEq]; omega
theorem absI_okU {n : Int} (h : okI n) : okU (absI n) := by unfold okI at h; unfold okU absI; split <;> omega
theorem wide_absolute_eq {a b : Int} (h : okW a b) : wide_absolute.f a b = some (hi (absI (val a b)), lo (absI (val a b))) := by
  have h' := h
  obtain ⟨⟨h1, h2⟩, h3, h4⟩ := h
  unfold wide_absolute.f
  by_cases ha : a < 0
  · rw [if_pos ha]
    unfold wide_negate.f
    rw [if_pos h']
    have hv : val a b < 0 := by unfold val; omega
    simp only [Option.bind_some, Option.some.injEq, Prod.mk.injEq, IntKind.wrap_u64]
    unfold absI
    rw [if_pos hv]
    refine ⟨?_, rfl⟩
    unfold wrap64 hi
    unfold val at hv ⊢
    omega
  · rw [if_neg ha]
    have hv : ¬ val a b < 0 := by unfold val; omega
    simp only [Option.some.injEq, Prod.mk.injEq, IntKind.wrap_u64]
    unfold absI
    rw [if_neg hv]
    unfold hi lo val
    omega
theorem mag_ok {a b : Int} (h : okW a b) : okU (hi (absI (val a b))) ∧ okU (lo (absI (val a b))) := by
  obtain ⟨⟨h1, h2⟩, h3, h4⟩ := h
  unfold okU hi lo absI
  unfold val
  split <;> omega
/-- a number with a sign and a size -/
def sgn (b : Bool) (m : Int) : Int := if b = true then -m else m
theorem val_mag (s : Int) : val (hi s) (lo s) = s := val_hi_lo s
theorem signed_eq {k : Nat} {a b : Int} {m : Bool} (hk : 1 ≤ k) (h1 : okU a) (h2 : okU b) : wide_size_signed.f k a b m = some (out (sgn m (val a b))) := by
  obtain ⟨k, rfl⟩ : ∃ j, k = j + 1 := ⟨k - 1, by omega⟩
  unfold okU at h1 h2
  have key : ∀ c : Bool, (c = true ↔ ¬ fits (sgn m (val a b))) → wide_size_signed.j0 (k + 1) m c a b = some (out (sgn m (val a b))) := by
    intro c hc
    simp only [wide_size_signed.j0]
    by_cases hcc : c = true
    · rw [if_pos hcc]
      unfold out
      rw [if_neg (hc.1 hcc)]
    · rw [if_neg hcc]
      have hf : fits (sgn m (val a b)) := by
        refine Decidable.byContradiction fun hn => hcc (hc.2 hn)
      unfold out
      rw [if_pos hf]
      cases m
      · rw [if_neg (by simp)]
        unfold sgn fits val at hf
        simp at hf
        unfold sgn hi lo wrap64 val
        simp
        omega
      · rw [if_pos rfl]
        unfold sgn fits val at hf
        simp at hf
        unfold wide_negate.f
        have ho : okW (wrap64 a) b := by unfold okW okI okU wrap64; omega
        rw [if_pos ho]
        simp only [Option.bind_some, Option.some.injEq, Prod.mk.injEq, and_true]
        unfold sgn hi lo wrap64 val
        simp
        omega
  unfold wide_size_signed.f
  split
  · refine key true ?_
    simp
    unfold fits sgn val
    cases m <;> simp <;> omega
  · split
    · rename_i he
      cases m
      · rw [if_neg (by simp)]
        refine key true ?_
        simp
        unfold fits sgn val
        simp; omega
      · rw [if_pos rfl]
        refine key _ ?_
        unfold fits sgn val
        simp; omega
    · refine key false ?_
      unfold fits sgn val
      cases m <;> simp <;> omega

theorem sgn_mul (a n : Int) : a * n = sgn (decide (a < 0) != decide (n < 0)) (absI a * absI n) := by
  unfold sgn absI
  by_cases h1 : a < 0 <;> by_cases h2 : n < 0 <;> simp [h1, h2, Int.neg_mul, Int.mul_neg]
theorem fits_small {s : Int} (b : Bool) (h0 : 0 ≤ s) (h : fits (sgn b s)) : s < 340282366920938463463374607431768211456 := by
  unfold fits sgn at h
  cases b <;> simp at h <;> omega
theorem val_neg_iff {a b : Int} (h : okW a b) : a < 0 ↔ val a b < 0 := by
  obtain ⟨⟨h1, h2⟩, h3, h4⟩ := h
  unfold val; omega
theorem out_bind (s : Int) : (some (out s)).bind (fun b : Int × Int × Int => some (b.1, b.2.1, b.2.2)) = some (out s) := rfl
theorem wide_Scale_eq {k : Nat} {a b n : Int} (hk : 1 ≤ k) (h : okW a b) (hn : okI n) : wide_Scale.f k a b n = some (out (val a b * n)) := by
  unfold wide_Scale.f
  rw [wide_absolute_eq h, wide_abs_eq hn]
  simp only [Option.bind_some]
  obtain ⟨m1, m2⟩ := mag_ok h
  have m3 := absI_okU hn
  unfold wide_size_times.f
  rw [if_pos ⟨m1, m2, m3, by unfold okU; omega⟩]
  simp only [Option.bind_some, val_hi_lo, Int.add_zero]
  have e := sgn_mul (val a b) n
  have z := Int.mul_nonneg (absI_nonneg (val a b)) (absI_nonneg n)
  have hs : decide (a < 0) = decide (val a b < 0) := by rw [decide_eq_decide]; exact val_neg_iff h
  rw [hs, e]
  generalize (decide (val a b < 0) != decide (n < 0)) = s
  generalize absI (val a b) * absI n = M at *
  by_cases hM : M < 340282366920938463463374607431768211456
  · rw [if_pos (by simpa using hM)]
    have u1 : hi M % 18446744073709551616 = hi M := by unfold hi; omega
    have u2 : okU (hi M) := by unfold okU hi; omega
    have u3 : okU (lo M) := by unfold okU lo; omega
    rw [u1]
    cases s
    · rw [if_neg (by simp), signed_eq hk u2 u3, val_hi_lo]
      rfl
    · rw [if_pos rfl, signed_eq hk u2 u3, val_hi_lo]
      simp only [Option.bind_some]
      by_cases h0 : M = 0
      · subst h0; rfl
      · have : (!(hi M == 0) || !(lo M == 0)) = true := by
          have : hi M ≠ 0 ∨ lo M ≠ 0 := by unfold hi lo; omega
          rcases this with h | h <;> simp [h]
        rw [this]
  · rw [if_neg (by simpa using hM)]
    unfold out
    rw [if_neg (fun hf => hM (fits_small s z hf))]
theorem wide_Mul_eq {a b : Int} (ha : okI a) (hb : okI b) : wide_Mul.f a b = some (hi (a * b), lo (a * b)) := by
  unfold wide_Mul.f
  rw [wide_abs_eq ha, wide_abs_eq hb]
  simp only [Option.bind_some]
  unfold bits_Mul64.f
  rw [if_pos ⟨absI_okU ha, absI_okU hb⟩]
  simp only [Option.bind_some]
  have e := sgn_mul a b
  have z := Int.mul_nonneg (absI_nonneg a) (absI_nonneg b)
  have l : absI a * absI b ≤ 85070591730234615865843651857942052864 := by
    have h1 : absI a ≤ 9223372036854775808 := by unfold okI at ha; unfold absI; split <;> omega
    have h2 : absI b ≤ 9223372036854775808 := by unfold okI at hb; unfold absI; split <;> omega
    have := Int.mul_le_mul h1 h2 (absI_nonneg b) (by omega)
    omega
  rw [e]
  generalize (decide (a < 0) != decide (b < 0)) = s
  generalize absI a * absI b = M at *
  cases s
  · rw [if_neg (by simp)]
    unfold sgn hi lo wrap64
    simp; omega
  · rw [if_pos rfl]
    unfold wide_negate.f
    have ho : okW (wrap64 (M / 18446744073709551616)) (M % 18446744073709551616) := by unfold okW okI okU wrap64; omega
    rw [if_pos ho]
    unfold sgn hi lo wrap64 val
    simp; omega

/-! ### the reference's -/
end Go.Proofs.Ytlmabdiodopidaa.G
