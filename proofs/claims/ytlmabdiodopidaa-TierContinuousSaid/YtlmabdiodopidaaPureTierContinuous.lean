/- The pure side of TierContinuous: the slices add up to the balance, and more gives no less. -/
import Derived.Test.YtlmabdiodopidaaPx26
import Derived.Test.YtlmabdiodopidaaPureS
namespace Go.Proofs.Ytlmabdiodopidaa.Pure
open Go.RowKit Go.Proofs.Ytlmabdiodopidaa.G Go.Proofs.Ytlmabdiodopidaa.P
theorem live_true : corebanklaw14_live.f = some true := by simp [corebanklaw14_live.f]
theorem sumP_nonneg : ∀ l : List S43, (∀ s ∈ l, 1 ≤ s.f0) → 0 ≤ sumP l
  | [], _ => by simp [sumP]
  | s :: r, h => by
    have := h s (by simp)
    have := sumP_nonneg r fun x hx => h x (by simp [hx])
    simp only [sumP]
    omega
theorem mem_drop {l : List S43} {n : Nat} {s : S43} (h : s ∈ l.drop n) : s ∈ l := List.mem_of_mem_drop h
theorem cont_loop {l : List S50} {b c : Int} (hb : okI b) (hc : okI c) {p : List S43} (hp : ∀ s ∈ p, 1 ≤ s.f0) (hl : p.length ≤ 6) : ∀ (d k : Nat) (x left : Int), 0 ≤ x → x ≤ p.length → (p.length - x).toNat = d → d + 41 ≤ k → left = sumP (p.drop x.toNat) → left ≤ 9223372036854775807 →
    corebanklaw14_TierContinuous.l0 k b c p (slicesB l true b) (slicesB l true c) left x = some true := by
  intro d
  induction d with
  | zero =>
    intro k x left h1 h2 hd hk hs hs'
    obtain ⟨k, rfl, hk⟩ := step1 (n := 40) (by omega)
    rw [List.drop_eq_nil_of_le (by omega)] at hs
    simp only [sumP] at hs
    simp only [corebanklaw14_TierContinuous.l0]
    rw [if_neg (by omega), if_pos hs, tier_Grains_slices (by omega) hb (by omega)]
    simp only [Option.bind_some]
    rw [tier_Grains_slices (by omega) hc (by omega)]
    simp only [Option.bind_some, if_true]
    rw [ref_Size_eq hb]
    simp only [Option.bind_some]
    rw [ref_Size_eq hc]
    simp only [Option.bind_some]
    split
    · simp [live_true]
    · have hm := slicesB_mono (l := l) hb hc (by omega)
      unfold corebankref01_Cmp.f
      simp only [Option.bind_some]
      rw [if_pos]
      · simp [live_true]
      · unfold hi lo
        split
        · omega
        · rw [if_pos (by omega)]
          omega
  | succ d ih =>
    intro k x left h1 h2 hd hk hs hs'
    obtain ⟨k, rfl, hk⟩ := step1 (n := d + 41) (by omega)
    have hx : x < p.length := by omega
    have hr := hp _ (rd43_mem h1 hx)
    have hn := sumP_nonneg (p.drop (x + 1).toNat) fun s h => hp s (mem_drop h)
    rw [drop43 h1 hx] at hs
    simp only [sumP] at hs
    simp only [corebanklaw14_TierContinuous.l0]
    rw [if_pos hx, if_pos h1, if_neg (by omega), if_neg (by omega), w64 (by omega) (by omega), w64 (by omega) (by omega)]
    exact ih k (x + 1) _ (by omega) (by omega) (by omega) (by omega) (by omega) (by omega)
theorem TierContinuous (l0 : List S50) (x1 : S40) (_ : okL (fun y_ => wf50 y_) l0) (h : wf40 x1) : ∃ k, corebanklaw14_TierContinuous.f k l0 x1.f0 x1.f1 x1.f2 = some true := by
  obtain ⟨_, h1, h2⟩ := h
  obtain ⟨a1_0, a1_1, a1_2⟩ := x1
  simp only at h1 h2 ⊢
  have hb := okN_i64.1 h1
  have hc := okN_i64.1 h2
  refine ⟨60, ?_⟩
  unfold corebanklaw14_TierContinuous.f
  rw [ref_Check_eq (by omega)]
  simp only [Option.bind_some, corebanklaw14_TierContinuous.j0]
  by_cases hk : checkT l0 = 0
  · rw [if_pos hk]
    by_cases hn : l0 = []
    · subst hn
      simp [live_true]
    have hp : 0 < l0.length := List.length_pos_iff.2 hn
    have e : ((l0.length : Int) == 0) = false := by simp [hn]
    rw [e]
    simp only [Bool.false_eq_true, if_false]
    rw [tier_Slices_eq (by omega) hb, tier_Slices_eq (by omega) hb]
    simp only [Option.bind_some]
    rw [tier_Slices_eq (by omega) hc, ref_Size_eq hb]
    simp only [Option.bind_some]
    have ho := slicesB_ok (l := l0) (m := a1_0) hb
    exact cont_loop hb hc (fun s hs => (ho s hs).1) (slicesB_len l0 a1_0 a1_1) _ 59 0 _ (by omega) (by omega) rfl (by have := slicesB_len l0 a1_0 a1_1; omega) (slicesB_sum hb hk hn).symm (szB_ok hb).2
  · simp [hk, live_true]
end Go.Proofs.Ytlmabdiodopidaa.Pure
