/- What the reference of Grains computes, as a number. -/
import Derived.Test.YtlmabdiodopidaaPx24
import Derived.Test.YtlmabdiodopidaaPureG
import Derived.Test.YtlmabdiodopidaaPureW
namespace Go.Proofs.Ytlmabdiodopidaa.G
open Go.RowKit Go.Proofs.Ytlmabdiodopidaa.P Go.Proofs.YtlmabdiodopidaaW.PrintWords
theorem ref_Grains_sum {w : Int} (hw : 0 ≤ w ∧ w ≤ 6412320000) (l : List S43) (hl : l.length ≤ 6) (ok : ∀ s ∈ l, okS s ∧ badS s = false) : ∀ (d k : Nat) (x A : Int), 0 ≤ x → x ≤ l.length → (l.length - x).toNat = d → d + 70 ≤ k → 0 ≤ A → A ≤ x * 59143212979364616009154560000000000 → corebankref14_Grains.l1 k l w x (hi A) (lo A) = some (hi (A + sumG w (l.drop x.toNat)), lo (A + sumG w (l.drop x.toNat)), 0) := by
  intro d
  induction d with
  | zero =>
    intro k x A h1 h2 hd hk hA hA'
    obtain ⟨k, rfl, _⟩ := step1 (n := 69) (by omega)
    simp only [corebankref14_Grains.l1]
    rw [if_neg (by omega), List.drop_eq_nil_of_le (by omega)]
    simp [sumG]
  | succ d ih =>
    intro k x A h1 h2 hd hk hA hA'
    obtain ⟨k, rfl, hk⟩ := step1 (n := d + 70) (by omega)
    have hx : x < l.length := by omega
    have hm := ok _ (rd43_mem h1 hx)
    rw [drop43 h1 hx]
    simp only [corebankref14_Grains.l1]
    rw [if_pos hx, if_pos h1]
    generalize rd_T43 l x = s at hm ⊢
    obtain ⟨⟨o1, o2⟩, o3⟩ := hm
    have o1' := o1
    have o2' := o2
    unfold okI at o1' o2'
    unfold badS at o3
    simp at o3
    obtain ⟨⟨g1, g2⟩, g3, g4⟩ := gterm (a := s.f0) (b := s.f1) (by omega) (by omega) (by omega) (by omega) hw
    have f1 : fits (s.f0 * s.f1) := by unfold fits; omega
    have f2 : fits (s.f0 * s.f1 * w) := by unfold fits; omega
    have f0 : fits A := by unfold fits; omega
    have f3 : fits (A + s.f0 * s.f1 * w) := by unfold fits; omega
    rw [ref_Mul_eq (by omega) o1 o2]
    simp only [Option.bind_some]
    rw [ref_Scale_eq (by omega) (okW_of_fits f1) (by unfold okI; omega), val_hi_lo, out_fits f2]
    simp only [Option.bind_some]
    rw [ref_Add_eq (okW_of_fits f0) (okW_of_fits f2), val_hi_lo, val_hi_lo, out_fits f3]
    simp only [Option.bind_some]
    rw [w64 (by omega) (by omega), ih k (x + 1) _ (by omega) (by omega) (by omega) (by omega) (by omega) (by omega)]
    simp only [sumG, Int.add_assoc]
theorem ref_Grains_all {w : Int} (l : List S43) (hl : l.length ≤ 6) (ok : ∀ s ∈ l, okS s) : ∀ (d k : Nat) (x : Int), 0 ≤ x → x ≤ l.length → (l.length - x).toNat = d → d + 90 ≤ k → (∀ i : Int, 0 ≤ i → i < x → badS (rd_T43 l i) = false) → corebankref14_Grains.l0 k l w x = some (if (w < 0 ∨ w > 6412320000) ∨ (l.drop x.toNat).any badS = true then (0, 0, 1) else (hi (sumG w l), lo (sumG w l), 0)) := by
  intro d
  induction d with
  | zero =>
    intro k x h1 h2 hd hk hs
    obtain ⟨k, rfl, _⟩ := step1 (n := 89) (by omega)
    obtain ⟨k, rfl, _⟩ := step1 (k := k) (n := 88) (by omega)
    simp only [corebankref14_Grains.l0, corebankref14_Grains.j1]
    rw [if_neg (by omega), List.drop_eq_nil_of_le (by omega)]
    by_cases w1 : w < 0
    · simp [w1]
    rw [if_neg w1]
    by_cases w2 : w > 6412320000
    · simp [w2]
    rw [if_neg (by simpa using w2)]
    have all : ∀ s ∈ l, okS s ∧ badS s = false := fun s h => by
      refine ⟨ok s h, ?_⟩
      obtain ⟨i, hi, rfl⟩ := List.mem_iff_getElem.1 h
      have := hs i (by omega) (by omega)
      unfold rd_T43 at this
      rw [List.getD_eq_getElem?_getD, Int.toNat_natCast, List.getElem?_eq_getElem hi, Option.getD_some] at this
      exact this
    have e : corebankref14_Grains.l1 k l w 0 (hi 0) (lo 0) = _ := ref_Grains_sum (w := w) ⟨by omega, by omega⟩ l hl all (l.length - 0) k 0 0 (by omega) (by omega) (by omega) (by omega) (by omega) (by omega)
    have z1 : hi 0 = 0 := by decide
    have z2 : lo 0 = 0 := by decide
    rw [z1, z2] at e
    rw [e]
    simp [w1, w2]
  | succ d ih =>
    intro k x h1 h2 hd hk hs
    obtain ⟨k, rfl, hk⟩ := step1 (n := d + 90) (by omega)
    have hx : x < l.length := by omega
    simp only [corebankref14_Grains.l0]
    rw [if_pos hx, if_pos h1, drop43 h1 hx]
    by_cases b1 : (rd_T43 l x).f0 < 0
    · simp [b1, badS]
    rw [if_neg b1]
    by_cases b2 : (rd_T43 l x).f1 < 0
    · simp [b2, badS]
    rw [if_neg b2]
    by_cases b3 : (rd_T43 l x).f1 > 1000000
    · simp [b3, badS]
    have hb : badS (rd_T43 l x) = false := by simp [badS, b1, b2, b3]
    have hany : (rd_T43 l x :: l.drop (x + 1).toNat).any badS = (l.drop (x + 1).toNat).any badS := by rw [List.any_cons, hb, Bool.false_or]
    rw [if_neg b3, hany, w64 (by omega) (by omega)]
    refine ih k (x + 1) (by omega) (by omega) (by omega) (by omega) fun i h3 h4 => ?_
    by_cases he : i = x
    · rw [he]; exact hb
    · exact hs i h3 (by omega)
theorem ref_Grains_eq {k : Nat} {l : List S43} {w : Int} (hk : 100 ≤ k) (ok : ∀ s ∈ l, okS s) : corebankref14_Grains.f k l w = some (grainsB l w) := by
  unfold corebankref14_Grains.f grainsB
  by_cases h6 : l.length > 6
  · rw [if_pos (by omega), if_pos h6]
  rw [if_neg (by omega), if_neg h6, ref_Grains_all l (by omega) ok (l.length - 0) k 0 (by omega) (by omega) (by omega) (by omega) (fun i h1 h2 => by omega)]
  simp only [Int.toNat_zero, List.drop_zero]
end Go.Proofs.Ytlmabdiodopidaa.G
