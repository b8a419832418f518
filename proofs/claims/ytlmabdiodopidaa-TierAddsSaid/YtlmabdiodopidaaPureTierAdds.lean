/- The pure side of TierAdds: the grains of two weights add up. -/
import Derived.Test.YtlmabdiodopidaaPx27
import Derived.Test.YtlmabdiodopidaaPureH
import Derived.Test.YtlmabdiodopidaaTypes
namespace Go.Proofs.Ytlmabdiodopidaa.Pure
open Go.RowKit Go.Proofs.Ytlmabdiodopidaa.G Go.Proofs.Ytlmabdiodopidaa.P
theorem okS_of {l : List S43} (h : okL (fun y_ => wf43 y_) l) : ∀ s ∈ l, okS s := fun s hs => by
  obtain ⟨h1, h2⟩ := h.2 s hs
  exact ⟨okN_i64.1 h1, okN_i64.1 h2⟩
theorem live_true : corebanklaw14_live.f = some true := by simp [corebanklaw14_live.f]
theorem sumG_add (m n : Int) : ∀ l : List S43, sumG (m + n) l = sumG m l + sumG n l
  | [] => rfl
  | s :: l => by
    have := sumG_add m n l
    simp only [sumG, Int.mul_add, this]
    omega
theorem sumG_le {w : Int} (hw : 0 ≤ w ∧ w ≤ 6412320000) : ∀ l : List S43, (∀ s ∈ l, okS s) → l.any badS = false → 0 ≤ sumG w l ∧ sumG w l ≤ l.length * 59143212979364616009154560000000000
  | [], _, _ => by simp [sumG]
  | s :: l, h, hb => by
    rw [List.any_cons, Bool.or_eq_false_iff] at hb
    have ih := sumG_le hw l (fun x hx => h x (by simp [hx])) hb.2
    obtain ⟨o1, o2⟩ := h s (by simp)
    unfold okI at o1 o2
    have o3 := hb.1
    unfold badS at o3
    simp at o3
    obtain ⟨_, g3, g4⟩ := gterm (a := s.f0) (b := s.f1) (by omega) (by omega) (by omega) (by omega) hw
    simp only [sumG, List.length_cons]
    omega
theorem weight {a : Int} (h : okN .u32 a) : 0 ≤ Int.tmod a 1073741824 ∧ Int.tmod a 1073741824 < 1073741824 ∧ wrap64 (Int.tmod a 1073741824) = Int.tmod a 1073741824 := by
  unfold okN Lit.wf at h
  simp [IntKind.min, IntKind.max, IntKind.signed, IntKind.bits] at h
  have h0 : 0 ≤ a := by omega
  have e : Int.tmod a 1073741824 = a % 1073741824 := Int.tmod_eq_emod_of_nonneg h0
  rw [e]
  refine ⟨by omega, by omega, w64 (by omega) (by omega)⟩
theorem TierAdds (l0 : List S43) (a1 : Int) (a2 : Int) (h0 : okL (fun y_ => wf43 y_) l0) (h1 : okN .u32 a1) (h2 : okN .u32 a2) : ∃ k, corebanklaw14_TierAdds.f k l0 a1 a2 = some true := by
  refine ⟨100, ?_⟩
  have ok := okS_of h0
  obtain ⟨p1, p2, p3⟩ := weight h1
  obtain ⟨q1, q2, q3⟩ := weight h2
  unfold corebanklaw14_TierAdds.f
  rw [p3, q3, w64 (x := Int.tmod a1 1073741824 + Int.tmod a2 1073741824) (by omega) (by omega)]
  generalize Int.tmod a1 1073741824 = m at *
  generalize Int.tmod a2 1073741824 = n at *
  rw [tier_Grains_eq (by omega) ok, tier_Grains_eq (by omega) ok, tier_Grains_eq (by omega) ok, ref_Grains_eq (by omega) ok]
  simp only [Option.bind_some]
  by_cases h6 : l0.length > 6
  · have e : ∀ w, grainsB l0 w = (0, 0, 5) := fun w => by unfold grainsB; rw [if_pos h6]
    simp [e, live_true]
  by_cases hb : l0.any badS = true
  · have e : ∀ w, grainsB l0 w = (0, 0, 1) := fun w => by unfold grainsB; rw [if_neg h6, if_pos (.inr hb)]
    simp [e, live_true]
  have e : ∀ w, 0 ≤ w → w < 6412320000 → grainsB l0 w = (hi (sumG w l0), lo (sumG w l0), 0) := fun w h1 h2 => by
    unfold grainsB
    rw [if_neg h6, if_neg (by rintro (h | h); omega; exact hb h)]
  have hb' : l0.any badS = false := by simpa using hb
  have b1 := sumG_le (w := m) (by omega) l0 ok hb'
  have b2 := sumG_le (w := n) (by omega) l0 ok hb'
  rw [e m (by omega) (by omega), e n (by omega) (by omega), e (m + n) (by omega) (by omega), sumG_add]
  simp only [if_true]
  have f1 : fits (sumG m l0) := by unfold fits; omega
  have f2 : fits (sumG n l0) := by unfold fits; omega
  have f3 : fits (sumG m l0 + sumG n l0) := by unfold fits; omega
  rw [ref_Add_eq (okW_of_fits f1) (okW_of_fits f2), val_hi_lo, val_hi_lo, out_fits f3]
  simp [live_true]
end Go.Proofs.Ytlmabdiodopidaa.Pure
