/- Contracts of leaf functions of package wide and of its reference, by hand: in the form that the printed callers ask for. -/
import Derived.Test.YtlmabdiodopidaaWMore
import Derived.Test.YtlmabdiodopidaaBits
import Derived.Lib.Mul64
import Derived.Laws.Bits64b
import Derived.BigQuiet
import Derived.Outline
import Derived.Deep.QuietTactic
namespace Go.Proofs.Ytlmabdiodopidaa.G
open Go.RowKit Go.Proofs.YtlmabdiodopidaaW.PrintWords Go.Proofs.YtlmabdiodopidaaW.PrintLast Go.Proofs.YtlmabdiodopidaaW.PrintMore
attribute [local go_sem high] un_not64 un_noti run_add64

/-- nothing that was there has changed: by the steps -/
theorem bel {w W : World} (h : Below w.heap.size w W := by repeat (first | exact Below.refl _ _ | apply below_drew1 | apply pw_below_drewN | refine Below.setCell ?_ (by first | (simp; done) | (simp; omega)) _ | refine Below.alloc ?_ (by first | (simp; done) | (simp; omega)) _)) : Below w.heap.size w W := h
theorem retw2 {a b a' b' : Int} (h1 : a = a') (h2 : b = b') : Ending.returned (.agg #[.int .i64 a, .int .u64 b]) = .returned (.agg #[.int .i64 a', .int .u64 b']) := by rw [h1, h2]
theorem reti {a b : Int} (h : a = b) : Ending.returned (.int .i64 a) = .returned (.int .i64 b) := by rw [h]
theorem retk3 {a a' : Bool} {b c b' c' : Int} (h1 : b = b') (h2 : c = c') (h3 : a = a') : Ending.returned (.tuple #[.agg #[.int .u64 b, .int .u64 c], .bool a]) = .returned (.tuple #[.agg #[.int .u64 b', .int .u64 c'], .bool a']) := by rw [h1, h2, h3]
theorem wrap64_hi {s : Int} (h : fits s) : wrap64 (hi s) = hi s := by
  unfold fits at h; unfold wrap64 hi; omega
theorem retw3_of {a b c r1 r2 r3 s : Int} (h : out s = (r1, r2, r3)) (e : out s = (a, b, c)) : Ending.returned (.tuple #[.agg #[.int .i64 a, .int .u64 b], .int .i64 c]) = .returned (.tuple #[.agg #[.int .i64 r1, .int .u64 r2], .int .i64 r3]) := by
  rw [e] at h; cases h; rfl

/-! ### math/bits.Mul64 -/
def bits_Mul64.f (a0 a1 : Int) : Option (Int × Int) := if okU a0 ∧ okU a1 then some (a0 * a1 / 18446744073709551616, a0 * a1 % 18446744073709551616) else none
theorem maskN (a : Nat) (ha : a < 18446744073709551616) : bits .and .u64 (a : Int) 4294967295 = ((a % 4294967296 : Nat) : Int) := by
  have h := bits_and_u64_nat a 4294967295 ha (by omega)
  have e : a &&& 4294967295 = a % 4294967296 := Nat.and_two_pow_sub_one_eq_mod a 32
  rw [e] at h
  exact h
theorem divN (a : Nat) : (a : Int) / 4294967296 = ((a / 4294967296 : Nat) : Int) := by omega
theorem mulN (a b : Nat) : (a : Int) * (b : Int) = ((a * b : Nat) : Int) := (Int.natCast_mul a b).symm
theorem addN (a b : Nat) : (a : Int) + (b : Int) = ((a + b : Nat) : Int) := (Int.natCast_add a b).symm
theorem wrapN (a : Nat) (ha : a < 18446744073709551616) : IntKind.u64.wrap (a : Int) = (a : Int) := by rw [IntKind.wrap_u64]; omega
theorem wrapM (a : Nat) : IntKind.u64.wrap (a : Int) = ((a % 18446744073709551616 : Nat) : Int) := by rw [IntKind.wrap_u64]; omega
set_option maxHeartbeats 1000000 in
theorem mul64_any (x y : Nat) (hx : x < 18446744073709551616) (hy : y < 18446744073709551616) (w : World) :
    Calls Try.prog 64 #[.int .u64 x, .int .u64 y] w fun e w' => e = .returned (.tuple #[.int .u64 ((x * y / 18446744073709551616 : Nat) : Int), .int .u64 ((x * y % 18446744073709551616 : Nat) : Int)]) ∧ w' = w := by
  obtain ⟨bd, bt, bw, hhi⟩ := Lib.mul64_hi x y hx hy
  have ba := Lib.half_mul_le (a := x / 4294967296) (b := y / 4294967296) (by omega) (by omega)
  have bb := Lib.half_mul_le (a := x / 4294967296) (b := y % 4294967296) (by omega) (by omega)
  have bc := Lib.half_mul_le (a := x % 4294967296) (b := y / 4294967296) (by omega) (by omega)
  have ba' : x / 4294967296 * (y / 4294967296) < 18446744073709551616 := by omega
  have bb' : x / 4294967296 * (y % 4294967296) < 18446744073709551616 := by omega
  have bc' : x % 4294967296 * (y / 4294967296) < 18446744073709551616 := by omega
  have bh1 : x / 4294967296 * (y / 4294967296) + (x / 4294967296 * (y % 4294967296) + x % 4294967296 * (y % 4294967296) / 4294967296) / 4294967296 < 18446744073709551616 := by omega
  have bh : x / 4294967296 * (y / 4294967296) + (x / 4294967296 * (y % 4294967296) + x % 4294967296 * (y % 4294967296) / 4294967296) / 4294967296 + ((x / 4294967296 * (y % 4294967296) + x % 4294967296 * (y % 4294967296) / 4294967296) % 4294967296 + x % 4294967296 * (y / 4294967296)) / 4294967296 < 18446744073709551616 := by omega
  go_enter Try.func64, Try.ntmps64
  go_wp2
  simp only [maskN x hx, maskN y hy, divN, mulN, addN, wrapN _ bd, wrapN _ bb', wrapN _ bt, maskN _ bt, wrapN _ bc', wrapN _ bw, wrapN _ ba', wrapN _ bh1, wrapN _ bh, wrapM (x * y)]
  rw [hhi]
  go_ret2
  exact ⟨rfl, rfl⟩
theorem bits_Mul64.calls (a0 a1 r1 r2 : Int) (w : World) (h : bits_Mul64.f a0 a1 = some (r1, r2)) : Calls Try.prog 64 #[.int .u64 a0, .int .u64 a1] w fun e w' => e = .returned (.tuple #[.int .u64 r1, .int .u64 r2]) ∧ Drawn0 w w' := by
  unfold bits_Mul64.f at h
  split at h
  case isFalse => cases h
  rename_i hk
  cases h
  obtain ⟨⟨h0, h1⟩, h2, h3⟩ := hk
  obtain ⟨x, rfl⟩ := Int.eq_ofNat_of_zero_le h0
  obtain ⟨y, rfl⟩ := Int.eq_ofNat_of_zero_le h2
  refine (mul64_any x y (by omega) (by omega) w).mono ?_
  rintro e w' ⟨rfl, rfl⟩
  exact ⟨rfl, Drawn0.refl _⟩

theorem mul64_some {x y : Int} (hx : okU x) (hy : okU y) : ∃ h l : Int, bits_Mul64.f x y = some (h, l) ∧ x * y = h * 18446744073709551616 + l ∧ okU h ∧ okU l := by
  refine ⟨x * y / 18446744073709551616, x * y % 18446744073709551616, by unfold bits_Mul64.f; rw [if_pos ⟨hx, hy⟩], by omega, ?_, by unfold okU; omega⟩
  have h1 := Int.mul_nonneg hx.1 hy.1
  have h2 := Int.mul_le_mul (show x ≤ 18446744073709551615 by unfold okU at hx; omega) (show y ≤ 18446744073709551615 by unfold okU at hy; omega) hy.1 (by omega)
  unfold okU
  generalize x * y = p at *
  omega

/-! ### wide.negate -/
def wide_negate.f (a0_0 a0_1 : Int) : Option (Int × Int) := if okW a0_0 a0_1 then some (wrap64 (hi (-val a0_0 a0_1)), lo (-val a0_0 a0_1)) else none
theorem wide_negate.calls (a0_0 a0_1 r1 r2 : Int) (w : World) (h : wide_negate.f a0_0 a0_1 = some (r1, r2)) : Calls Try.prog 65 #[.agg #[.int .i64 a0_0, .int .u64 a0_1]] w fun e w' =>
    e = .returned (.agg #[.int .i64 r1, .int .u64 r2]) ∧ Below w.heap.size w w' := by
  unfold wide_negate.f at h
  split at h
  case isFalse => cases h
  rename_i hk
  cases h
  obtain ⟨ha, hb⟩ := hk
  have e1 := not64_eq hb
  have e2 := noti_eq ha
  obtain ⟨a0, a1⟩ := ha
  obtain ⟨b0, b1⟩ := hb
  have k1 : wrap64 (IntKind.u64.wrap (IntKind.u64.wrap (Go.bits .xor .i64 (-1) a0_0) + add64c (not64 a0_1) 1)) = wrap64 (hi (-val a0_0 a0_1)) := by
    rw [e1, e2, add64c_eq (by omega) (by omega)]
    simp only [IntKind.wrap_u64]
    unfold wrap64 hi val
    omega
  have k2 : add64s (not64 a0_1) 1 = lo (-val a0_0 a0_1) := by
    rw [e1, add64s_eq (by omega) (by omega)]
    unfold lo val
    omega
  have K1 := Aside0.mk k1
  have K2 := Aside0.mk k2
  clear e1 e2 k1 k2
  go_enter Try.func65, Try.ntmps65
  go_wp2
  exact bodyPost_ret (v := .agg #[.int .i64 _, .int .u64 _]) (by simp [results, Try.results65, go_sem]) rfl ⟨retw2 K1.out K2.out, bel⟩

/-! ### wide.Add -/
def wide_Add.f (a0_0 a0_1 a1_0 a1_1 : Int) : Option (Int × Int × Int) := if okW a0_0 a0_1 ∧ okW a1_0 a1_1 then some (out (val a0_0 a0_1 + val a1_0 a1_1)) else none
set_option maxHeartbeats 1000000 in
theorem wide_Add.calls (a0_0 a0_1 a1_0 a1_1 r1 r2 r3 : Int) (w : World) (h : wide_Add.f a0_0 a0_1 a1_0 a1_1 = some (r1, r2, r3)) :
    Calls Try.prog 45 #[.agg #[.int .i64 a0_0, .int .u64 a0_1], .agg #[.int .i64 a1_0, .int .u64 a1_1]] w fun e w' => e = .returned (.tuple #[.agg #[.int .i64 r1, .int .u64 r2], .int .i64 r3]) ∧ Below w.heap.size w w' := by
  unfold wide_Add.f at h
  by_cases hw : okW a0_0 a0_1 ∧ okW a1_0 a1_1
  case neg => rw [if_neg hw] at h; cases h
  rw [if_pos hw] at h
  obtain ⟨⟨⟨p1, p2⟩, p3, p4⟩, ⟨q1, q2⟩, q3, q4⟩ := hw
  have e1 : wrap64 (wrap64 (a0_0 + a1_0) + wrap64 (add64c a0_1 a1_1)) = wrap64 (hi (val a0_0 a0_1 + val a1_0 a1_1)) := by
    rw [add64c_eq p3 q3]; unfold wrap64 hi val; omega
  have e2 : add64s a0_1 a1_1 = lo (val a0_0 a0_1 + val a1_0 a1_1) := by
    rw [add64s_eq p3 q3]; unfold lo val; omega
  have h' := Option.some.inj h
  clear h
  have H := Aside0.mk h'
  have E1 := Aside0.mk e1
  have E2 := Aside0.mk e2
  clear h' e1 e2
  go_enter Try.func45, Try.ntmps45
  go_wp2
  all_goals
    refine bodyPost_ret (v := .tuple #[.agg #[.int .i64 _, .int .u64 _], .int .i64 _]) (by simp [results, Try.results45, go_sem]; exact ⟨⟨rfl, rfl⟩, rfl⟩) rfl ⟨retw3_of H.out ?_, bel⟩
    have g1 := E1.out
    have g2 := E2.out
  · rename_i h1 h2
    rw [g1] at h2
    unfold out
    rw [if_neg]
    intro hf
    unfold fits val at hf
    unfold wrap64 hi val at h2
    by_cases hb : a1_0 < 0 <;> simp [hb] at h1 h2 <;> omega
  · rename_i h1 h2
    rw [g1] at h2 ⊢
    rw [g2]
    unfold out
    have hf : fits (val a0_0 a0_1 + val a1_0 a1_1) := by
      unfold fits val
      unfold wrap64 hi val at h2
      by_cases hb : a1_0 < 0 <;> simp [hb] at h1 h2 <;> omega
    rw [if_pos hf, wrap64_hi hf]
  · rename_i h1
    rw [g1, g2]
    unfold out
    have hf : fits (val a0_0 a0_1 + val a1_0 a1_1) := by
      unfold fits val
      by_cases hb : a1_0 < 0 <;> simp [hb] at h1 <;> omega
    rw [if_pos hf, wrap64_hi hf]

/-! ### (wide.size).times -/
/-- the full product and more -/
def wide_size_times.f (a0_0 a0_1 a1 a2 : Int) : Option (Int × Int × Bool) := if okU a0_0 ∧ okU a0_1 ∧ okU a1 ∧ okU a2 then some (hi (val a0_0 a0_1 * a1 + a2) % 18446744073709551616, lo (val a0_0 a0_1 * a1 + a2), decide (val a0_0 a0_1 * a1 + a2 < 340282366920938463463374607431768211456)) else none
set_option maxHeartbeats 1000000 in
theorem wide_size_times.calls (a0_0 a0_1 a1 a2 r1 r2 : Int) (r3 : Bool) (w : World) (h : wide_size_times.f a0_0 a0_1 a1 a2 = some (r1, r2, r3)) :
    Calls Try.prog 61 #[.agg #[.int .u64 a0_0, .int .u64 a0_1], .int .u64 a1, .int .u64 a2] w fun e w' => e = .returned (.tuple #[.agg #[.int .u64 r1, .int .u64 r2], .bool r3]) ∧ Below w.heap.size w w' := by
  unfold wide_size_times.f at h
  split at h
  case isFalse => cases h
  rename_i hk
  cases h
  obtain ⟨k0, k1, k2, k3⟩ := hk
  obtain ⟨qh, ql, A1, e1, z1, z2⟩ := mul64_some k1 k2
  obtain ⟨ph, pl, A2, e2, z3, z4⟩ := mul64_some k0 k2
  have full : val a0_0 a0_1 * a1 + a2 = (ph * 18446744073709551616 + pl) * 18446744073709551616 + (qh * 18446744073709551616 + ql) + a2 := by
    unfold val; rw [Int.add_mul, Int.mul_right_comm, e1, e2]
  rw [full]
  have lim : qh ≤ 18446744073709551614 := by
    have := Int.mul_le_mul (show a0_1 ≤ 18446744073709551615 by unfold okU at k1; omega) (show a1 ≤ 18446744073709551615 by unfold okU at k2; omega) k2.1 (by omega)
    unfold okU at z1 z2; omega
  clear full e1 e2
  have K : Aside0 (okU qh ∧ okU ql ∧ okU ph ∧ okU pl ∧ okU a2 ∧ qh ≤ 18446744073709551614) := ⟨⟨z1, z2, z3, z4, k3, lim⟩⟩
  have B1 := Aside0.mk A1
  have B2 := Aside0.mk A2
  clear A1 A2 z1 z2 z3 z4 k0 k1 k2 k3 lim
  go_enter Try.func61, Try.ntmps61
  go_wp2_with fail
  refine (bits_Mul64.calls _ _ qh ql _ B1.out).mono ?_
  rintro e w1 ⟨rfl, nd, rfl⟩
  go_wp2_with fail
  refine (bits_Mul64.calls _ _ ph pl _ B2.out).mono ?_
  rintro e w1 ⟨rfl, nd2, rfl⟩
  go_wp2
  all_goals
    refine bodyPost_ret (v := .tuple #[.agg #[.int .u64 _, .int .u64 _], .bool _]) (by simp [results, Try.results61, go_sem]; exact ⟨⟨rfl, rfl⟩, rfl⟩) rfl ⟨retk3 ?_ ?_ ?_, bel⟩
    all_goals
      obtain ⟨⟨s1, s2⟩, ⟨s3, s4⟩, ⟨s5, s6⟩, ⟨s7, s8⟩, ⟨s9, t1⟩, t2⟩ := K.out
      have x2 : IntKind.u64.wrap (qh + add64c ql a2) = qh + (ql + a2) / 18446744073709551616 := by
        rw [add64c_eq s3 s9, IntKind.wrap_u64]; omega
      have x3 := add64s_eq s3 s9
      have x4 := add64s_eq (x := pl) (y := qh + (ql + a2) / 18446744073709551616) s7 (by omega)
      have x5 := add64c_eq (x := pl) (y := qh + (ql + a2) / 18446744073709551616) s7 (by omega)
      clear K B1 B2
      try rw [x2]
      first | (rw [x4]; unfold hi; omega) | (rw [x3]; unfold lo; omega) | ((try rw [x5]); rw [Bool.eq_iff_iff]; simp; omega)

/-! ### corebankref01.plus -/
def corebankref01_plus.f (a0_0 a0_1 a1_0 a1_1 : Int) : Option (Int × Int × Bool) := if okU a0_0 ∧ okU a0_1 ∧ okU a1_0 ∧ okU a1_1 then some (hi (val a0_0 a0_1 + val a1_0 a1_1) % 18446744073709551616, lo (val a0_0 a0_1 + val a1_0 a1_1), decide (val a0_0 a0_1 + val a1_0 a1_1 < 340282366920938463463374607431768211456)) else none
set_option maxHeartbeats 1000000 in
theorem corebankref01_plus.calls (a0_0 a0_1 a1_0 a1_1 r1 r2 : Int) (r3 : Bool) (w : World) (h : corebankref01_plus.f a0_0 a0_1 a1_0 a1_1 = some (r1, r2, r3)) :
    Calls Try.prog 70 #[.agg #[.int .u64 a0_0, .int .u64 a0_1], .agg #[.int .u64 a1_0, .int .u64 a1_1]] w fun e w' => e = .returned (.tuple #[.agg #[.int .u64 r1, .int .u64 r2], .bool r3]) ∧ Below w.heap.size w w' := by
  unfold corebankref01_plus.f at h
  split at h
  case isFalse => cases h
  rename_i hk
  cases h
  have K := Aside0.mk hk
  clear hk
  go_enter Try.func70, Try.ntmps70
  go_wp2
  all_goals
    refine bodyPost_ret (v := .tuple #[.agg #[.int .u64 _, .int .u64 _], .bool _]) (by simp [results, Try.results70, go_sem]; exact ⟨⟨rfl, rfl⟩, rfl⟩) rfl ⟨retk3 ?_ ?_ ?_, bel⟩
    all_goals
      obtain ⟨⟨s1, s2⟩, ⟨s3, s4⟩, ⟨s5, s6⟩, s7, s8⟩ := K.out
      simp only [IntKind.wrap_u64] at *
      unfold val
      first | (unfold hi; omega) | (unfold lo; omega) | (rw [Bool.eq_iff_iff]; simp; omega)

/-! ### corebankref01.Cmp -/
def corebankref01_Cmp.f (a0_0 a0_1 a1_0 a1_1 : Int) : Option Int := some (if a0_0 = a1_0 ∧ a0_1 = a1_1 then 0 else if a0_0 < a1_0 ∨ a0_0 = a1_0 ∧ a0_1 < a1_1 then -1 else 1)
set_option maxHeartbeats 1000000 in
theorem corebankref01_Cmp.calls (a0_0 a0_1 a1_0 a1_1 r : Int) (w : World) (h : corebankref01_Cmp.f a0_0 a0_1 a1_0 a1_1 = some r) :
    Calls Try.prog 27 #[.agg #[.int .i64 a0_0, .int .u64 a0_1], .agg #[.int .i64 a1_0, .int .u64 a1_1]] w fun e w' => e = .returned (.int .i64 r) ∧ Below w.heap.size w w' := by
  unfold corebankref01_Cmp.f at h
  cases h
  by_cases c1 : a0_0 = a1_0 <;> by_cases c2 : a0_1 = a1_1 <;> by_cases c3 : a0_0 < a1_0 <;> by_cases c4 : a0_1 < a1_1
  all_goals try (exfalso; omega)
  all_goals
    go_enter Try.func27, Try.ntmps27
    go_wp2
    repeat (go_quiet (fail); try go_wp2)
  all_goals
    go_ret
    exact ⟨reti (by first | rfl | (split <;> first | omega | (split <;> omega))), bel⟩
end Go.Proofs.Ytlmabdiodopidaa.G
