/- The machine's own words on 64 bits, as the walks spell them; and pairs of words as numbers (plain arithmetic). -/
import Derived.Test.YtlmabdiodopidaaProg
import Derived.Laws.Externs
import Derived.KernelRfl
import Derived.WalkKit
namespace Go.Proofs.Ytlmabdiodopidaa.G
/-- all bits turned -/
def not64 (x : Int) : Int := Go.bits .xor .u64 18446744073709551615 x
theorem un_not64 (n : Int) : Op.unary .xor (.int .u64 n) = pure (.int .u64 (not64 n)) := rfl
theorem un_noti (n : Int) : Op.unary .xor (.int .i64 n) = pure (.int .i64 (Go.bits .xor .i64 (-1) n)) := rfl
def add64s (x y : Int) : Int := (((x.toNat + y.toNat) % 18446744073709551616 : Nat) : Int)
def add64c (x y : Int) : Int := (((x.toNat + y.toNat) / 18446744073709551616 : Nat) : Int)
def sub64s (x y : Int) : Int := (((x.toNat + 18446744073709551616 - y.toNat) % 18446744073709551616 : Nat) : Int)
def sub64c (x y : Int) : Int := ((if x.toNat < y.toNat then 1 else 0 : Nat) : Int)
def sub64Entry : Array Value → Sem Value := fun args => do
  let (x, y, b) ← Extern.MathBitsCarry.three "Sub64" args
  pure (Extern.MathBitsCarry.pair ((x + Extern.MathBitsCarry.m64 - y - b) % Extern.MathBitsCarry.m64) (if x < y + b then 1 else 0))
theorem run_add64 (x y : Int) (w : World) : (callFunc 66 #[.int .u64 x, .int .u64 y, .int .u64 0]).run Try.prog w = .ok (.value (.tuple #[.int .u64 (add64s x y), .int .u64 (add64c x y)])) w := by
  rw [run_callFunc_extern Try.func66 (by kernel_rfl) (by kernel_rfl) (by kernel_rfl) (e := add64Entry) (by kernel_rfl)]
  rfl
theorem add64s_eq {x y : Int} (hx : 0 ≤ x) (hy : 0 ≤ y) : add64s x y = (x + y) % 18446744073709551616 := by unfold add64s; omega
theorem add64c_eq {x y : Int} (hx : 0 ≤ x) (hy : 0 ≤ y) : add64c x y = (x + y) / 18446744073709551616 := by unfold add64c; omega
theorem sub64s_eq {x y : Int} (hx : 0 ≤ x) (hy : 0 ≤ y) (hy1 : y < 18446744073709551616) : sub64s x y = (x - y) % 18446744073709551616 := by unfold sub64s; omega
theorem sub64c_eq {x y : Int} (hx : 0 ≤ x) (hy : 0 ≤ y) : sub64c x y = if x < y then 1 else 0 := by unfold sub64c; split <;> split <;> omega

/-- an int of Go -/
def okI (n : Int) : Prop := -9223372036854775808 ≤ n ∧ n < 9223372036854775808
/-- a word -/
def okU (n : Int) : Prop := 0 ≤ n ∧ n < 18446744073709551616
/-- a pair of an int and a word -/
def okW (h l : Int) : Prop := okI h ∧ okU l
instance (n : Int) : Decidable (okI n) := by unfold okI; infer_instance
instance (n : Int) : Decidable (okU n) := by unfold okU; infer_instance
instance (h l : Int) : Decidable (okW h l) := by unfold okW; infer_instance
/-- the number of a pair -/
def val (h l : Int) : Int := h * 18446744073709551616 + l
/-- the pair of a number -/
def hi (s : Int) : Int := s / 18446744073709551616
def lo (s : Int) : Int := s % 18446744073709551616
/-- does a number fit -/
def fits (s : Int) : Prop := -170141183460469231731687303715884105728 ≤ s ∧ s < 170141183460469231731687303715884105728
instance (s : Int) : Decidable (fits s) := by unfold fits; infer_instance
/-- a sum's or product's pair and error -/
def out (s : Int) : Int × Int × Int := if fits s then (hi s, lo s, 0) else (0, 0, 6)
/-- the size of a number -/
def absI (n : Int) : Int := if n < 0 then -n else n

theorem val_hi_lo (s : Int) : val (hi s) (lo s) = s := by unfold val hi lo; omega
theorem hi_val {h l : Int} (w : okU l) : hi (val h l) = h := by unfold okU at w; unfold hi val; omega
theorem lo_val {h l : Int} (w : okU l) : lo (val h l) = l := by unfold okU at w; unfold lo val; omega
theorem fits_val {h l : Int} (w : okW h l) : fits (val h l) := by
  obtain ⟨⟨a, b⟩, c, d⟩ := w
  unfold fits val; omega
theorem okW_of_fits {s : Int} (h : fits s) : okW (hi s) (lo s) := by
  unfold fits at h; unfold okW okI okU hi lo; omega
theorem val_inj {a b c d : Int} (h1 : okU b) (h2 : okU d) : val a b = val c d ↔ a = c ∧ b = d := by
  unfold okU at h1 h2; unfold val; omega
theorem fits_mul {a b : Int} (ha : okI a) (hb : okI b) : fits (a * b) := by
  have key : ∀ x y : Int, 0 ≤ x → x ≤ 9223372036854775808 → 0 ≤ y → y ≤ 9223372036854775808 → 0 ≤ x * y ∧ x * y ≤ 85070591730234615865843651857942052864 := by
    intro x y x0 x1 y0 y1
    refine ⟨Int.mul_nonneg x0 y0, ?_⟩
    have := Int.mul_le_mul x1 y1 y0 (by omega)
    omega
  unfold okI at ha hb; unfold fits
  rcases Int.le_total 0 a with h1 | h1 <;> rcases Int.le_total 0 b with h2 | h2
  · have := key a b h1 (by omega) h2 (by omega); omega
  · have := key a (-b) h1 (by omega) (by omega) (by omega); rw [Int.mul_neg] at this; omega
  · have := key (-a) b (by omega) (by omega) h2 (by omega); rw [Int.neg_mul] at this; omega
  · have := key (-a) (-b) (by omega) (by omega) (by omega) (by omega); rw [Int.neg_mul_neg] at this; omega
theorem not64_eq {x : Int} (h : okU x) : not64 x = 18446744073709551615 - x := by
  obtain ⟨h0, h1⟩ := h
  obtain ⟨n, rfl⟩ := Int.eq_ofNat_of_zero_le h0
  have hn : n < 18446744073709551616 := by omega
  have e : (BitVec.ofInt 64 (18446744073709551615 : Int)) ^^^ (BitVec.ofInt 64 (n : Int)) = ~~~ (BitVec.ofNat 64 n) := by
    have e1 : BitVec.ofInt 64 (18446744073709551615 : Int) = BitVec.allOnes 64 := by decide
    rw [e1, BitVec.ofInt_natCast, BitVec.allOnes_xor]
  unfold not64 Go.bits
  show IntKind.u64.wrap ((BitVec.ofInt 64 (18446744073709551615 : Int) ^^^ BitVec.ofInt 64 (n : Int)).toNat : Int) = _
  rw [e, IntKind.wrap_u64, BitVec.toNat_not, BitVec.toNat_ofNat]
  omega
theorem noti_eq {x : Int} (h : okI x) : Go.bits .xor .i64 (-1) x = -1 - x := by
  obtain ⟨h0, h1⟩ := h
  have e : (BitVec.ofInt 64 (-1 : Int)) ^^^ (BitVec.ofInt 64 x) = ~~~ (BitVec.ofInt 64 x) := by
    have e1 : BitVec.ofInt 64 (-1 : Int) = BitVec.allOnes 64 := by decide
    rw [e1, BitVec.allOnes_xor]
  unfold Go.bits
  show IntKind.i64.wrap ((BitVec.ofInt 64 (-1 : Int) ^^^ BitVec.ofInt 64 x).toNat : Int) = _
  rw [e, IntKind.wrap_i64, BitVec.toNat_not, BitVec.toNat_ofInt]
  omega
end Go.Proofs.Ytlmabdiodopidaa.G
