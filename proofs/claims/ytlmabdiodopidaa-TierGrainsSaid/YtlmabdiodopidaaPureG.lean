/- What tier.Grains computes, as a number. -/
import Derived.Test.YtlmabdiodopidaaPx12
import Derived.Test.YtlmabdiodopidaaPureV
namespace Go.Proofs.Ytlmabdiodopidaa.G
open Go.RowKit Go.Proofs.Ytlmabdiodopidaa.P Go.Proofs.YtlmabdiodopidaaW.PrintWords
/-- a slice's parts are ints -/
def okS (s : S43) : Prop := okI s.f0 ∧ okI s.f1
/-- a slice that is refused -/
def badS (s : S43) : Bool := decide (s.f0 < 0) || (decide (s.f1 < 0) || decide (s.f1 > 1000000))
def sumG (w : Int) : List S43 → Int
  | [] => 0
  | s :: r => s.f0 * s.f1 * w + sumG w r
theorem rd43_mem {l : List S43} {x : Int} (h0 : 0 ≤ x) (h1 : x < l.length) : rd_T43 l x ∈ l := by
  unfold rd_T43
  rw [List.getD_eq_getElem?_getD, List.getElem?_eq_getElem (by omega), Option.getD_some]
  exact List.getElem_mem _
theorem drop43 {l : List S43} {x : Int} (h0 : 0 ≤ x) (h1 : x < l.length) : l.drop x.toNat = rd_T43 l x :: l.drop (x + 1).toNat := by
  unfold rd_T43
  rw [List.getD_eq_getElem?_getD, List.getElem?_eq_getElem (by omega), Option.getD_some, show (x + 1).toNat = x.toNat + 1 by omega]
  exact List.drop_eq_getElem_cons (by omega)
theorem gterm {a b w : Int} (ha : 0 ≤ a) (ha' : a < 9223372036854775808) (hb : 0 ≤ b) (hb' : b ≤ 1000000) (hw : 0 ≤ w ∧ w ≤ 6412320000) : (0 ≤ a * b ∧ a * b ≤ 9223372036854775808000000) ∧ 0 ≤ a * b * w ∧ a * b * w ≤ 59143212979364616009154560000000000 := by
  have h1 := Int.mul_nonneg ha hb
  have h2 : a * b ≤ 9223372036854775808 * 1000000 := Int.mul_le_mul (by omega) hb' hb (by omega)
  have h3 := Int.mul_nonneg h1 hw.1
  have h4 : a * b * w ≤ 9223372036854775808 * 1000000 * 6412320000 := Int.mul_le_mul h2 hw.2 hw.1 (by omega)
  omega
theorem wide_Add_eq {a b c d : Int} (h1 : okW a b) (h2 : okW c d) : wide_Add.f a b c d = some (out (val a b + val c d)) := by
  unfold wide_Add.f
  rw [if_pos ⟨h1, h2⟩]
theorem out_fits {s : Int} (h : fits s) : out s = (hi s, lo s, 0) := by unfold out; rw [if_pos h]
theorem tier_Grains_loop {w : Int} (hw : 0 ≤ w ∧ w ≤ 6412320000) (l : List S43) (hl : l.length ≤ 6) (ok : ∀ s ∈ l, okS s) : ∀ (d k : Nat) (x A : Int), 0 ≤ x → x ≤ l.length → (l.length - x).toNat = d → 2 * d + 1 ≤ k → 0 ≤ A → A ≤ x * 59143212979364616009154560000000000 → tier_Grains.l0 k w l l.length x (hi A) (lo A) = some (if (l.drop x.toNat).any badS = true then (0, 0, 1) else (hi (A + sumG w (l.drop x.toNat)), lo (A + sumG w (l.drop x.toNat)), 0)) := by
  intro d
  induction d with
  | zero =>
    intro k x A h1 h2 hd hk hA hA'
    obtain ⟨k, rfl, _⟩ := step1 hk
    simp only [tier_Grains.l0]
    rw [if_neg (by omega), List.drop_eq_nil_of_le (by omega)]
    simp [sumG]
  | succ d ih =>
    intro k x A h1 h2 hd hk hA hA'
    obtain ⟨k, rfl, hk⟩ := step1 (n := 2 * d + 2) (by omega)
    obtain ⟨k, rfl, hk⟩ := step1 (n := 2 * d + 1) (by omega)
    have hx : x < l.length := by omega
    have hm := ok _ (rd43_mem h1 hx)
    rw [drop43 h1 hx]
    simp only [tier_Grains.l0]
    rw [if_pos hx, if_pos h1, if_pos hx]
    generalize rd_T43 l x = s at hm ⊢
    obtain ⟨o1, o2⟩ := hm
    have o1' := o1
    have o2' := o2
    unfold okI at o1' o2'
    simp only [tier_Grains.j2]
    by_cases b1 : s.f0 < 0
    · simp [b1, badS]
    rw [if_neg b1]
    by_cases b2 : s.f1 < 0
    · simp [b2, badS]
    rw [if_neg b2]
    by_cases b3 : s.f1 > 1000000
    · simp [b3, badS]
    have hb : badS s = false := by simp [badS, b1, b2, b3]
    have hany : (s :: l.drop (x + 1).toNat).any badS = (l.drop (x + 1).toNat).any badS := by rw [List.any_cons, hb, Bool.false_or]
    rw [if_neg (by simpa using b3), hany]
    obtain ⟨⟨g1, g2⟩, g3, g4⟩ := gterm (a := s.f0) (b := s.f1) (by omega) (by omega) (by omega) (by omega) hw
    have f1 : fits (s.f0 * s.f1) := by unfold fits; omega
    have f2 : fits (s.f0 * s.f1 * w) := by unfold fits; omega
    have f0 : fits A := by unfold fits; omega
    have f3 : fits (A + s.f0 * s.f1 * w) := by unfold fits; omega
    rw [wide_Mul_eq o1 o2]
    simp only [Option.bind_some]
    rw [wide_Scale_eq (by omega) (okW_of_fits f1) (by unfold okI; omega), val_hi_lo, out_fits f2]
    simp only [Option.bind_some]
    rw [wide_Add_eq (okW_of_fits f0) (okW_of_fits f2), val_hi_lo, val_hi_lo, out_fits f3]
    simp only [Option.bind_some]
    rw [w64 (by omega) (by omega), ih k (x + 1) _ (by omega) (by omega) (by omega) (by omega) (by omega) (by omega)]
    simp only [sumG, Int.add_assoc]
/-- what Grains gives -/
def grainsB (l : List S43) (w : Int) : Int × Int × Int := if l.length > 6 then (0, 0, 5) else if (w < 0 ∨ w > 6412320000) ∨ l.any badS = true then (0, 0, 1) else (hi (sumG w l), lo (sumG w l), 0)
theorem tier_Grains_eq {k : Nat} {l : List S43} {w : Int} (hk : 30 ≤ k) (ok : ∀ s ∈ l, okS s) : tier_Grains.f k l w = some (grainsB l w) := by
  obtain ⟨k, rfl⟩ : ∃ j, k = j + 1 := ⟨k - 1, by omega⟩
  unfold tier_Grains.f grainsB
  by_cases h6 : l.length > 6
  · rw [if_pos (by omega), if_pos h6]
  rw [if_neg (by omega), if_neg h6]
  simp only [tier_Grains.j0]
  by_cases w1 : w < 0
  · simp [w1]
  rw [if_neg w1]
  by_cases w2 : w > 6412320000
  · simp [w2]
  rw [if_neg (by simpa using w2)]
  have e : tier_Grains.l0 k w l l.length 0 (hi 0) (lo 0) = _ := tier_Grains_loop (w := w) ⟨by omega, by omega⟩ l (by omega) ok (l.length - 0) k 0 0 (by omega) (by omega) (by omega) (by omega) (by omega) (by omega)
  have z1 : hi 0 = 0 := by decide
  have z2 : lo 0 = 0 := by decide
  rw [z1, z2] at e
  rw [e]
  simp only [Int.toNat_zero, List.drop_zero, Int.zero_add, w1, w2, false_or]
end Go.Proofs.Ytlmabdiodopidaa.G
