/- What the printed functions of the reference of package wide compute, as numbers. -/
import Derived.Test.YtlmabdiodopidaaPureV
import Derived.Test.YtlmabdiodopidaaPx23
import Derived.Test.YtlmabdiodopidaaPx21
import Derived.Laws.BitsAllLaws
namespace Go.Proofs.Ytlmabdiodopidaa.G
open Go.RowKit Go.Proofs.Ytlmabdiodopidaa.P Go.Proofs.YtlmabdiodopidaaW.PrintWords

theorem ref_size_eq {n : Int} (h : okI n) : corebankref01_size.f n = some (absI n) := by
  unfold okI at h
  unfold corebankref01_size.f absI
  split
  · rw [not64_eq (by simp only [IntKind.wrap_u64]; unfold okU; omega)]
    simp only [IntKind.wrap_u64, Option.some.injEq]; omega
  · simp only [IntKind.wrap_u64, Option.some.injEq]; omega
theorem ref_Split_eq {a b : Int} (h : okW a b) : corebankref01_Split.f a b = some (decide (val a b < 0), hi (absI (val a b)), lo (absI (val a b))) := by
  have hs := val_neg_iff h
  obtain ⟨⟨h1, h2⟩, h3, h4⟩ := h
  have n1 := not64_eq ⟨h3, h4⟩
  unfold corebankref01_Split.f
  rw [n1]
  by_cases ha : a ≥ 0
  · rw [if_pos ha]
    have : ¬ val a b < 0 := fun h => by have := hs.2 h; omega
    unfold absI
    rw [if_neg this]
    simp only [this, decide_false, Option.some.injEq, Prod.mk.injEq, IntKind.wrap_u64, true_and]
    unfold hi lo val
    omega
  · rw [if_neg ha]
    have hv : val a b < 0 := hs.1 (by omega)
    have n2 : not64 (IntKind.u64.wrap a) = -1 - a := by
      rw [not64_eq (by simp only [IntKind.wrap_u64]; unfold okU; omega)]
      simp only [IntKind.wrap_u64]; omega
    rw [n2]
    unfold absI
    rw [if_pos hv]
    simp only [hv, decide_true, IntKind.wrap_u64]
    unfold hi lo
    unfold val at hv ⊢
    split <;> simp only [Option.some.injEq, Prod.mk.injEq, true_and] <;> omega
theorem ref_Join_eq {a b : Int} {m : Bool} (h1 : okU a) (h2 : okU b) : ∃ x y, corebankref01_Join.f m a b = some (x, y, decide (fits (sgn m (val a b)))) ∧ (fits (sgn m (val a b)) → x = hi (sgn m (val a b)) ∧ y = lo (sgn m (val a b))) := by
  have n1 := not64_eq h1
  have n2 := not64_eq h2
  unfold okU at h1 h2
  unfold corebankref01_Join.f
  rw [n1, n2]
  cases m
  · refine ⟨_, _, by rw [if_neg (by simp)]; rw [show decide (a < 9223372036854775808) = decide (fits (sgn false (val a b))) by rw [decide_eq_decide]; unfold fits sgn val; simp; omega], ?_⟩
    intro hf
    unfold fits sgn val at hf
    unfold sgn hi lo wrap64 val
    simp at hf ⊢
    omega
  · rw [if_pos rfl]
    have key : ∀ x y : Int, ∀ c : Bool, (c = true ↔ fits (sgn true (val a b))) → (fits (sgn true (val a b)) → x = hi (sgn true (val a b)) ∧ y = lo (sgn true (val a b))) → ∃ x' y', some (x, y, c) = some (x', y', decide (fits (sgn true (val a b)))) ∧ (fits (sgn true (val a b)) → x' = hi (sgn true (val a b)) ∧ y' = lo (sgn true (val a b))) := by
      intro x y c hc hxy
      refine ⟨x, y, ?_, hxy⟩
      have : c = decide (fits (sgn true (val a b))) := by rw [Bool.eq_iff_iff, hc]; simp
      rw [this]
    have hfi : fits (sgn true (val a b)) ↔ (a < 9223372036854775808 ∨ a = 9223372036854775808 ∧ b = 0) := by unfold fits sgn val; simp; omega
    have ehi : hi (sgn true (val a b)) = if b = 0 then -a else -1 - a := by unfold hi sgn val; simp; split <;> omega
    have elo : lo (sgn true (val a b)) = if b = 0 then 0 else 18446744073709551616 - b := by unfold lo sgn val; simp; split <;> omega
    simp only [IntKind.wrap_u64]
    repeat' split
    all_goals
      refine key _ _ _ (by rw [hfi]; simp; try omega) (fun hf => ?_)
      rw [hfi] at hf
      rw [ehi, elo]
      unfold wrap64
      split <;> omega
theorem ref_Less_eq {a b c d : Int} (h1 : okU b) (h2 : okU d) : corebankref01_Less.f a b c d = some (decide (val a b < val c d)) := by
  unfold okU at h1 h2
  unfold corebankref01_Less.f val
  split
  · simp; omega
  · split <;> simp <;> omega
theorem ref_minus_eq {a b c d : Int} (h1 : okU a) (h2 : okU b) (h3 : okU c) (h4 : okU d) (h : val c d ≤ val a b) : corebankref01_minus.f a b c d = some (hi (val a b - val c d), lo (val a b - val c d)) := by
  unfold okU at h1 h2 h3 h4
  unfold val at h
  unfold corebankref01_minus.f hi lo val
  simp only [IntKind.wrap_u64]
  split <;> simp only [Option.some.injEq, Prod.mk.injEq] <;> omega
theorem sgn_fits_out {s : Int} {x y : Int} (h : fits s → x = hi s ∧ y = lo s) : (if decide (fits s) = true then some (x, y, (0 : Int)) else some (0, 0, 6)) = some (out s) := by
  unfold out
  by_cases hf : fits s
  · obtain ⟨rfl, rfl⟩ := h hf
    rw [if_pos (by simpa using hf), if_pos hf]
  · rw [if_neg (by simpa using hf), if_neg hf]
theorem ref_sum_eq {a b c d : Int} {m n : Bool} (h1 : okU a) (h2 : okU b) (h3 : okU c) (h4 : okU d) : corebankref01_sum.f m a b n c d = some (out (sgn m (val a b) + sgn n (val c d))) := by
  have p1 : 0 ≤ val a b := by unfold okU at h1 h2; unfold val; omega
  have p2 : 0 ≤ val c d := by unfold okU at h3 h4; unfold val; omega
  have q1 : val a b < 340282366920938463463374607431768211456 := by unfold okU at h1 h2; unfold val; omega
  have q2 : val c d < 340282366920938463463374607431768211456 := by unfold okU at h3 h4; unfold val; omega
  have okp : ∀ s : Int, okU (lo s) := fun s => by unfold okU lo; omega
  have okq : ∀ s : Int, 0 ≤ s → s < 340282366920938463463374607431768211456 → okU (hi s) := fun s h1 h2 => by unfold okU hi; omega
  unfold corebankref01_sum.f
  by_cases hmn : m = n
  · subst hmn
    rw [if_pos (by simp)]
    unfold corebankref01_plus.f
    rw [if_pos ⟨h1, h2, h3, h4⟩]
    simp only [Option.bind_some]
    have e : sgn m (val a b) + sgn m (val c d) = sgn m (val a b + val c d) := by unfold sgn; split <;> omega
    rw [e]
    have p3 : 0 ≤ val a b + val c d := by omega
    generalize val a b + val c d = s at *
    by_cases hs : s < 340282366920938463463374607431768211456
    · obtain ⟨x, y, hj, hxy⟩ := ref_Join_eq (m := m) (show okU (hi s % 18446744073709551616) by unfold okU; omega) (okp s)
      have e2 : val (hi s % 18446744073709551616) (lo s) = s := by
        rw [show hi s % 18446744073709551616 = hi s by unfold hi; omega]; exact val_hi_lo s
      rw [e2] at hj hxy
      rw [hj]
      simp only [Option.bind_some, hs, decide_true, if_true]
      exact sgn_fits_out hxy
    · obtain ⟨x, y, hj, _⟩ := ref_Join_eq (m := m) (show okU (hi s % 18446744073709551616) by unfold okU; omega) (okp s)
      rw [hj]
      simp only [Option.bind_some, hs, decide_false]
      unfold out
      rw [if_neg (by simp), if_neg]
      unfold fits sgn
      split <;> omega
  · rw [if_neg (by simpa using hmn)]
    rw [ref_Less_eq h2 h4]
    simp only [Option.bind_some]
    have hn : n = !m := by cases m <;> cases n <;> simp_all
    by_cases hl : val a b < val c d
    · rw [if_pos (by simpa using hl), ref_minus_eq h3 h4 h1 h2 (by omega)]
      simp only [Option.bind_some]
      obtain ⟨x, y, hj, hxy⟩ := ref_Join_eq (m := n) (okq (val c d - val a b) (by omega) (by omega)) (okp _)
      rw [val_hi_lo] at hj hxy
      rw [hj]
      simp only [Option.bind_some]
      have e : sgn m (val a b) + sgn n (val c d) = sgn n (val c d - val a b) := by subst hn; unfold sgn; cases m <;> simp <;> omega
      rw [e]
      exact sgn_fits_out hxy
    · rw [if_neg (by simpa using hl), ref_minus_eq h1 h2 h3 h4 (by omega)]
      simp only [Option.bind_some]
      obtain ⟨x, y, hj, hxy⟩ := ref_Join_eq (m := m) (okq (val a b - val c d) (by omega) (by omega)) (okp _)
      rw [val_hi_lo] at hj hxy
      rw [hj]
      simp only [Option.bind_some]
      have e : sgn m (val a b) + sgn n (val c d) = sgn m (val a b - val c d) := by subst hn; unfold sgn; cases m <;> simp <;> omega
      rw [e]
      exact sgn_fits_out hxy
theorem sgn_absI (s : Int) : sgn (decide (s < 0)) (absI s) = s := by
  unfold sgn absI
  by_cases h : s < 0 <;> simp [h]
theorem ref_Add_eq {a b c d : Int} (h1 : okW a b) (h2 : okW c d) : corebankref01_Add.f a b c d = some (out (val a b + val c d)) := by
  unfold corebankref01_Add.f
  rw [ref_Split_eq h1, ref_Split_eq h2]
  simp only [Option.bind_some]
  obtain ⟨m1, m2⟩ := mag_ok h1
  obtain ⟨m3, m4⟩ := mag_ok h2
  rw [ref_sum_eq m1 m2 m3 m4, val_hi_lo, val_hi_lo, sgn_absI, sgn_absI]
  rfl
theorem ref_Of_eq {n : Int} (h : okI n) : corebankref01_Of.f n = some (hi n, lo n) := by
  unfold okI at h
  unfold corebankref01_Of.f hi lo
  simp only [IntKind.wrap_u64]
  split <;> simp only [Option.some.injEq, Prod.mk.injEq, and_true] <;> omega

theorem top_bit {x : Int} (h : okU x) : (Go.bits .and .u64 x 9223372036854775808 = 0) ↔ x < 9223372036854775808 := by
  obtain ⟨h0, h1⟩ := h
  obtain ⟨n, rfl⟩ := Int.eq_ofNat_of_zero_le h0
  have hn : n < 18446744073709551616 := by omega
  have e := u64_and_nat n 9223372036854775808 hn (by decide)
  have e2 : (n &&& 9223372036854775808 = 0) ↔ n.testBit 63 = false := by
    constructor
    · intro h
      have h2 : Nat.testBit (n &&& 9223372036854775808) 63 = Nat.testBit 0 63 := by rw [h]
      rw [Nat.testBit_and, show (9223372036854775808 : Nat) = 2 ^ 63 from rfl, Nat.testBit_two_pow] at h2
      simpa using h2
    · intro h
      refine Nat.eq_of_testBit_eq fun i => ?_
      rw [Nat.testBit_and, show (9223372036854775808 : Nat) = 2 ^ 63 from rfl, Nat.testBit_two_pow]
      by_cases hi : 63 = i
      · subst hi; simp [h]
      · simp [hi]
  have e3 : n.testBit 63 = decide (n / 2 ^ 63 % 2 = 1) := Nat.testBit_eq_decide_div_mod_eq
  rw [show ((9223372036854775808 : Int)) = ((9223372036854775808 : Nat) : Int) from rfl, e]
  rw [show (((n &&& 9223372036854775808 : Nat) : Int) = 0) ↔ (n &&& 9223372036854775808 = 0) by omega, e2, e3]
  simp
  omega

/-- the product, bit by bit: what is still to come -/
def dbl (M : Int) : Nat → Int → Int → Int
  | 0, R, _ => R
  | j + 1, R, n => dbl M j (2 * R + (if n < 9223372036854775808 then 0 else M)) (2 * n % 18446744073709551616)
theorem dbl_eq (M : Int) : ∀ (j : Nat) (R n : Int), j ≤ 64 → 0 ≤ n → n < 18446744073709551616 → dbl M j R n = R * 2 ^ j + M * (n / 2 ^ (64 - j))
  | 0, R, n, _, h0, h1 => by
    simp only [dbl, Nat.sub_zero, Int.pow_zero, Int.mul_one]
    rw [show n / 2 ^ 64 = 0 by omega, Int.mul_zero, Int.add_zero]
  | j + 1, R, n, hj, h0, h1 => by
    simp only [dbl]
    rw [dbl_eq M j _ _ (by omega) (by omega) (by omega)]
    have key : n / 2 ^ (64 - (j + 1)) = (if n < 9223372036854775808 then 0 else 1) * 2 ^ j + (2 * n % 18446744073709551616) / 2 ^ (64 - j) := by
      have e : (2 : Int) ^ (64 - j) = 2 * 2 ^ (64 - (j + 1)) := by
        rw [show 64 - j = (64 - (j + 1)) + 1 by omega, Int.pow_succ, Int.mul_comm]
      have e2 : (9223372036854775808 : Int) = 2 ^ j * 2 ^ (64 - (j + 1)) := by
        rw [← Int.pow_add, show j + (64 - (j + 1)) = 63 by omega]; rfl
      have hp : (0 : Int) < 2 ^ (64 - (j + 1)) := Int.pow_pos (by decide)
      rw [e, ← Int.ediv_ediv_of_nonneg (by decide)]
      generalize (2 : Int) ^ (64 - (j + 1)) = q at *
      generalize (2 : Int) ^ j = r at *
      split
      · rw [show 2 * n % 18446744073709551616 / 2 = n by omega]; omega
      · rw [show 2 * n % 18446744073709551616 / 2 = n - 9223372036854775808 by omega, e2]
        rw [Int.one_mul, Int.sub_ediv_of_dvd _ (Int.dvd_mul_left r q), Int.mul_ediv_cancel _ (by omega)]
        omega
    rw [key, Int.pow_succ]
    generalize (2 : Int) ^ j = r
    generalize (2 * n % 18446744073709551616) / 2 ^ (64 - j) = y
    split <;> grind
theorem dbl_all (M n : Int) (h0 : 0 ≤ n) (h1 : n < 18446744073709551616) : dbl M 64 0 n = M * n := by
  rw [dbl_eq M 64 0 n (by omega) h0 h1]
  simp

theorem pair_val {a b : Int} {s : Int} (h1 : a = hi s % 18446744073709551616) (h2 : b = lo s) : val a b = s % 340282366920938463463374607431768211456 := by
  subst h1 h2; unfold val hi lo; omega
theorem ref_plus_eq {a b c d : Int} (h1 : okU a) (h2 : okU b) (h3 : okU c) (h4 : okU d) : corebankref01_plus.f a b c d = some (hi (val a b + val c d) % 18446744073709551616, lo (val a b + val c d), decide (val a b + val c d < 340282366920938463463374607431768211456)) := by
  unfold corebankref01_plus.f
  rw [if_pos ⟨h1, h2, h3, h4⟩]
theorem ref_times_loop (m0 m1 M : Int) (hm : okU m0 ∧ okU m1) (hM : val m0 m1 = M) : ∀ (j k : Nat) (R n o0 o1 : Int), j ≤ 64 → j < k → 0 ≤ R → okU n → okU o0 → okU o1 → val o0 o1 = R % 340282366920938463463374607431768211456 →
    ∃ x y : Int, corebankref01_times.l0 k n (decide (R < 340282366920938463463374607431768211456)) (64 - (j : Int)) m0 m1 o0 o1 = some (x, y, decide (dbl M j R n < 340282366920938463463374607431768211456)) ∧ okU x ∧ okU y ∧ val x y = dbl M j R n % 340282366920938463463374607431768211456
  | 0, k, R, n, o0, o1, _, hk, hR, hn, h1, h2, hv => by
    obtain ⟨k, rfl⟩ : ∃ m, k = m + 1 := ⟨k - 1, by omega⟩
    refine ⟨o0, o1, ?_, h1, h2, hv⟩
    simp only [corebankref01_times.l0]
    rw [if_neg (by omega)]
    rfl
  | j + 1, k, R, n, o0, o1, hj, hk, hR, hn, h1, h2, hv => by
    obtain ⟨k, rfl⟩ : ∃ m, k = m + 1 := ⟨k - 1, by omega⟩
    have hM0 : 0 ≤ M ∧ M < 340282366920938463463374607431768211456 := by obtain ⟨⟨a, b⟩, c, d⟩ := hm; unfold val at hM; omega
    have ov : 0 ≤ val o0 o1 ∧ val o0 o1 < 340282366920938463463374607431768211456 := by unfold okU at h1 h2; unfold val; omega
    have hn' : okU (IntKind.u64.wrap (n * 2)) := by rw [IntKind.wrap_u64]; unfold okU; omega
    have en : IntKind.u64.wrap (n * 2) = 2 * n % 18446744073709551616 := by rw [IntKind.wrap_u64, Int.mul_comm]
    have eb : wrap64 (64 - ((j + 1 : Nat) : Int) + 1) = 64 - (j : Int) := by unfold wrap64; omega
    have hF : dbl M (j + 1) R n = dbl M j (2 * R + (if n < 9223372036854775808 then 0 else M)) (IntKind.u64.wrap (n * 2)) := by rw [en]; rfl
    rw [hF]
    clear hF
    simp only [corebankref01_times.l0]
    rw [if_pos (by omega), ref_plus_eq h1 h2 h1 h2]
    simp only [Option.bind_some]
    have ku : okU (hi (val o0 o1 + val o0 o1) % 18446744073709551616) := by unfold okU; omega
    have kl : okU (lo (val o0 o1 + val o0 o1)) := by unfold okU lo; omega
    have kv := pair_val (s := val o0 o1 + val o0 o1) rfl rfl
    rw [ref_plus_eq ku kl hm.1 hm.2, hM]
    rw [kv, eb]
    simp only [Option.bind_some]
    have ku2 : ∀ s : Int, okU (hi s % 18446744073709551616) := fun s => by unfold okU; omega
    have kl2 : ∀ s : Int, okU (lo s) := fun s => by unfold okU lo; omega
    have tb := top_bit hn
    rw [hv]
    by_cases hb : n < 9223372036854775808
    · have ih := ref_times_loop m0 m1 M hm hM j k (2 * R) (IntKind.u64.wrap (n * 2)) (hi (R % 340282366920938463463374607431768211456 + R % 340282366920938463463374607431768211456) % 18446744073709551616) (lo (R % 340282366920938463463374607431768211456 + R % 340282366920938463463374607431768211456)) (by omega) (by omega) (by omega) hn' (ku2 _) (kl2 _) (by rw [pair_val rfl rfl]; omega)
      simp only [tb.2 hb, if_true, hb, Int.add_zero]
      by_cases hr : R < 340282366920938463463374607431768211456
      · simp only [hr, decide_true, if_true]
        rw [show decide (R % 340282366920938463463374607431768211456 + R % 340282366920938463463374607431768211456 < 340282366920938463463374607431768211456) = decide (2 * R < 340282366920938463463374607431768211456) by rw [decide_eq_decide]; omega]
        exact ih
      · simp only [hr, decide_false, Bool.false_eq_true, if_false]
        rw [show false = decide (2 * R < 340282366920938463463374607431768211456) by symm; rw [decide_eq_false_iff_not]; omega]
        exact ih
    · have ih := ref_times_loop m0 m1 M hm hM j k (2 * R + M) (IntKind.u64.wrap (n * 2)) (hi ((R % 340282366920938463463374607431768211456 + R % 340282366920938463463374607431768211456) % 340282366920938463463374607431768211456 + M) % 18446744073709551616) (lo ((R % 340282366920938463463374607431768211456 + R % 340282366920938463463374607431768211456) % 340282366920938463463374607431768211456 + M)) (by omega) (by omega) (by omega) hn' (ku2 _) (kl2 _) (by rw [pair_val rfl rfl]; omega)
      have tb' : ¬ (Go.bits .and .u64 n 9223372036854775808 = 0) := fun h => hb (tb.1 h)
      simp only [tb', if_false, hb]
      by_cases hr : R < 340282366920938463463374607431768211456
      · simp only [hr, decide_true, if_true]
        by_cases h2 : R % 340282366920938463463374607431768211456 + R % 340282366920938463463374607431768211456 < 340282366920938463463374607431768211456
        · simp only [h2, decide_true, if_true]
          rw [show decide ((R % 340282366920938463463374607431768211456 + R % 340282366920938463463374607431768211456) % 340282366920938463463374607431768211456 + M < 340282366920938463463374607431768211456) = decide (2 * R + M < 340282366920938463463374607431768211456) by rw [decide_eq_decide]; omega]
          exact ih
        · simp only [h2, decide_false, Bool.false_eq_true, if_false]
          rw [show false = decide (2 * R + M < 340282366920938463463374607431768211456) by symm; rw [decide_eq_false_iff_not]; omega]
          exact ih
      · simp only [hr, decide_false, Bool.false_eq_true, if_false]
        rw [show false = decide (2 * R + M < 340282366920938463463374607431768211456) by symm; rw [decide_eq_false_iff_not]; omega]
        exact ih
theorem ref_times_eq {k : Nat} {a b n : Int} (hk : 64 < k) (h1 : okU a) (h2 : okU b) (h3 : okU n) : ∃ x y : Int, corebankref01_times.f k a b n = some (x, y, decide (val a b * n < 340282366920938463463374607431768211456)) ∧ okU x ∧ okU y ∧ val x y = val a b * n % 340282366920938463463374607431768211456 := by
  obtain ⟨x, y, e, r⟩ := ref_times_loop a b (val a b) ⟨h1, h2⟩ rfl 64 k 0 n 0 0 (by omega) hk (by omega) h3 (by unfold okU; omega) (by unfold okU; omega) (by unfold val; omega)
  rw [dbl_all _ _ h3.1 h3.2] at e r
  exact ⟨x, y, e, r⟩
theorem ref_Scale_eq {k : Nat} {a b n : Int} (hk : 64 < k) (h : okW a b) (hn : okI n) : corebankref01_Scale.f k a b n = some (out (val a b * n)) := by
  unfold corebankref01_Scale.f
  rw [ref_Split_eq h, ref_size_eq hn]
  simp only [Option.bind_some]
  obtain ⟨m1, m2⟩ := mag_ok h
  obtain ⟨x, y, e, ox, oy, exy⟩ := ref_times_eq hk m1 m2 (absI_okU hn)
  rw [val_hi_lo] at e exy
  rw [e]
  simp only [Option.bind_some]
  obtain ⟨u, v, hj, huv⟩ := ref_Join_eq (m := decide (val a b < 0) != decide (n < 0)) ox oy
  rw [hj]
  simp only [Option.bind_some]
  have es := sgn_mul (val a b) n
  have z := Int.mul_nonneg (absI_nonneg (val a b)) (absI_nonneg n)
  rw [es]
  generalize (decide (val a b < 0) != decide (n < 0)) = s at *
  generalize absI (val a b) * absI n = M at *
  by_cases hM : M < 340282366920938463463374607431768211456
  · rw [if_pos (by simpa using hM)]
    rw [show val x y = M by omega] at huv ⊢
    exact sgn_fits_out huv
  · rw [if_neg (by simpa using hM)]
    unfold out
    rw [if_neg (fun hf => hM (fits_small s z hf))]
theorem okW_val {n : Int} (h : okI n) : okW (hi n) (lo n) := okW_of_fits (by unfold okI at h; unfold fits; omega)
theorem ref_Mul_eq {k : Nat} {a b : Int} (hk : 64 < k) (ha : okI a) (hb : okI b) : corebankref01_Mul.f k a b = some (hi (a * b), lo (a * b)) := by
  unfold corebankref01_Mul.f
  rw [ref_Of_eq ha]
  simp only [Option.bind_some]
  rw [ref_Scale_eq hk (okW_val ha) hb, val_hi_lo]
  unfold out
  rw [if_pos (fits_mul ha hb)]
  rfl
end Go.Proofs.Ytlmabdiodopidaa.G
