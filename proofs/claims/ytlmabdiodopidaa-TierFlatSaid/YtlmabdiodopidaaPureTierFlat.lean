/- The pure side of TierFlat: one rate for all tiers is one tier at that rate. -/
import Derived.Test.YtlmabdiodopidaaPx28
import Derived.Test.YtlmabdiodopidaaPureS
namespace Go.Proofs.Ytlmabdiodopidaa.Pure
open Go.RowKit Go.Proofs.Ytlmabdiodopidaa.G Go.Proofs.Ytlmabdiodopidaa.P
def flat (r : Int) (l : List S50) : List S50 := l.map fun t => ⟨t.f0, r⟩
theorem flat_any (r : Int) : ∀ l : List S50, (∀ t ∈ l, badT t = false) → 0 ≤ r → r ≤ 1000000 → (flat r l).any badT = false
  | [], _, _, _ => rfl
  | t :: l, h, h1, h2 => by
    have ih := flat_any r l (fun x hx => h x (by simp [hx])) h1 h2
    have ht := h t (by simp)
    have e : (⟨t.f0, r⟩ : S50) :: flat r l = flat r (t :: l) := rfl
    rw [← e, List.any_cons, ih]
    unfold badT at ht ⊢
    simp at ht ⊢
    omega
theorem flat_len (r : Int) (l : List S50) : (flat r l).length = l.length := by unfold flat; simp
theorem flat_rd {r : Int} {l : List S50} {i : Int} (h0 : 0 ≤ i) (h1 : i < l.length) : rd_T50 (flat r l) i = ⟨(rd_T50 l i).f0, r⟩ := by
  unfold rd_T50 flat
  rw [List.getD_eq_getElem?_getD, List.getD_eq_getElem?_getD, List.getElem?_map, List.getElem?_eq_getElem (by omega)]
  rfl
theorem flat_check {r : Int} {l : List S50} (h : checkT l = 0) (h1 : 0 ≤ r) (h2 : r ≤ 1000000) : checkT (flat r l) = 0 := by
  have g := good_of h
  have hl := flat_len r l
  unfold checkT
  rw [if_neg (by have := g.len; omega), if_neg, if_neg, if_neg]
  · rintro ⟨hn, hz⟩
    have hne : l ≠ [] := fun e => hn (by rw [e]; rfl)
    have hp : 0 < l.length := List.length_pos_iff.2 hne
    rw [flat_rd (by omega) (by omega)] at hz
    exact hz (g.zero hne)
  · rw [ascB_yes]
    · simp
    · intro i h3 h4
      rw [hl] at h4
      rw [flat_rd (by omega) (by omega), flat_rd (by omega) (by omega)]
      exact g.up i h3 h4
  · rw [flat_any r l _ h1 h2]
    · simp
    · intro t ht
      have := g.ok t ht
      unfold badT
      simp
      omega
theorem partsL_rate (n r : Int) : ∀ l : List S50, (∀ t ∈ l, t.f1 = r) → ∀ s ∈ partsL n l, s.f1 = r
  | [], _ => by simp [partsL]
  | [t], h => by
    have ht := h t (by simp)
    unfold partsL
    split <;> simp [ht]
  | t :: u :: l, h => by
    have ht := h t (by simp)
    have ih := partsL_rate n r (u :: l) fun x hx => h x (by simp at hx ⊢; exact .inr hx)
    unfold partsL
    intro s hs
    rw [List.mem_append] at hs
    rcases hs with hs | hs
    · split at hs
      · simp only [List.mem_singleton] at hs; rw [hs]; exact ht
      · simp at hs
    · exact ih s hs
theorem rateL_flat {s r : Int} : ∀ (l : List S50) (a : Int), (∀ t ∈ l, t.f1 = r) → a = r → rateL s l a = r
  | [], a, _, h => h
  | t :: l, a, h, ha => by
    unfold rateL
    exact rateL_flat l _ (fun x hx => h x (by simp [hx])) (by split; exact h t (by simp); exact ha)
theorem flat_f1 {r : Int} {l : List S50} : ∀ t ∈ flat r l, t.f1 = r := by
  intro t ht
  unfold flat at ht
  rw [List.mem_map] at ht
  obtain ⟨u, _, rfl⟩ := ht
  rfl
theorem rateB_flat {r b : Int} {l : List S50} (h : checkT l = 0) (hn : l ≠ []) (h1 : 0 ≤ r) (h2 : r ≤ 1000000) (hb : okI b) : rateB (flat r l) b = r := by
  have hz := szB_ok hb
  have hc := flat_check h h1 h2
  unfold rateB
  rw [if_pos hc]
  match l, hn, h with
  | t :: l, _, h =>
    have e : t.f0 = 0 := by simpa [rd_T50] using (good_of h).zero (by simp)
    have e2 : flat r (t :: l) = ⟨t.f0, r⟩ :: flat r l := rfl
    rw [e2]
    unfold rateL
    exact rateL_flat _ _ flat_f1 (by rw [if_pos (by rw [e]; omega)])
theorem flat_slices_rate {r b : Int} {m : Bool} {l : List S50} (h : checkT l = 0) (hn : l ≠ []) (h1 : 0 ≤ r) (h2 : r ≤ 1000000) (hb : okI b) : ∀ s ∈ slicesB (flat r l) m b, s.f1 = r := by
  unfold slicesB
  split
  · simp
  split
  · exact partsL_rate _ r _ flat_f1
  · intro s hs
    simp only [List.mem_singleton] at hs
    rw [hs]
    exact rateB_flat h hn h1 h2 hb
theorem flat_grains {r b w : Int} {l : List S50} (h : checkT l = 0) (h1 : 0 ≤ r) (h2 : r ≤ 1000000) (hb : okI b) : sumG w (slicesB (flat r l) true b) = sumG w (slicesB (flat r l) false b) := by
  by_cases hn : l = []
  · subst hn
    have e : ∀ m, slicesB (flat r []) m b = [] := fun m => by unfold slicesB; rw [if_pos (.inr (.inl rfl))]
    rw [e, e]
  · have hf : flat r l ≠ [] := fun e => hn (by cases l with | nil => rfl | cons => simp [flat] at e)
    have hc := flat_check h h1 h2
    rw [sumG_flat _ (flat_slices_rate h hn h1 h2 hb), sumG_flat _ (flat_slices_rate h hn h1 h2 hb), slicesB_sum hb hc hf, slicesB_sum hb hc hf]
theorem live_true : corebanklaw14_live.f = some true := by simp [corebanklaw14_live.f]
theorem flat_drop {r x : Int} {l : List S50} (h0 : 0 ≤ x) (h1 : x < l.length) : flat r (l.take x.toNat) ++ [(⟨(rd_T50 l x).f0, r⟩ : S50)] = flat r (l.take (x + 1).toNat) := by
  unfold flat rd_T50
  rw [show (x + 1).toNat = x.toNat + 1 by omega, List.take_succ_eq_append_getElem (by omega), List.map_append, List.getD_eq_getElem?_getD, List.getElem?_eq_getElem (by omega)]
  rfl
theorem flat_loop {r b : Int} {l : List S50} (h : checkT l = 0) (h1 : 0 ≤ r) (h2 : r ≤ 1000000) (hb : okI b) : ∀ (d k : Nat) (x : Int), 0 ≤ x → x ≤ l.length → (l.length - x).toNat = d → d + 41 ≤ k → corebanklaw14_TierFlat.l0 k l r b (flat r (l.take x.toNat)) x = some true := by
  have hlen := (good_of h).len
  intro d
  induction d with
  | zero =>
    intro k x h3 h4 hd hk
    obtain ⟨k, rfl, hk⟩ := step1 (n := 40) (by omega)
    simp only [corebanklaw14_TierFlat.l0]
    rw [if_neg (by omega), List.take_of_length_le (by omega), tier_Slices_eq (by omega) hb]
    simp only [Option.bind_some]
    rw [tier_Grains_slices (by omega) hb (by omega)]
    simp only [Option.bind_some]
    rw [tier_Slices_eq (by omega) hb]
    simp only [Option.bind_some]
    rw [tier_Grains_slices (by omega) hb (by omega), flat_grains h h1 h2 hb]
    simp only [Option.bind_some, BEq.rfl, Bool.and_self, if_true]
    by_cases hn : l = []
    · subst hn
      simp [live_true]
    · have hp : 0 < l.length := List.length_pos_iff.2 hn
      rw [if_neg (by omega), tier_Rate_eq (by omega) hb, rateB_flat h hn h1 h2 hb]
      simp [live_true]
  | succ d ih =>
    intro k x h3 h4 hd hk
    obtain ⟨k, rfl, hk⟩ := step1 (n := d + 41) (by omega)
    have hx : x < l.length := by omega
    simp only [corebanklaw14_TierFlat.l0]
    have ht : (flat r (l.take x.toNat)).length < 8796093022208 := by rw [flat_len, List.length_take]; omega
    rw [if_pos hx, if_pos h3, if_pos ht, w64 (by omega) (by omega), flat_drop h3 hx]
    exact ih k (x + 1) (by omega) (by omega) (by omega) (by omega)
theorem TierFlat (l0 : List S50) (a1 : Int) (a2 : Int) (_ : okL (fun y_ => wf50 y_) l0) (_ : okN .i64 a1) (h2 : okN .i64 a2) : ∃ k, corebanklaw14_TierFlat.f k l0 a1 a2 = some true := by
  refine ⟨60, ?_⟩
  unfold corebanklaw14_TierFlat.f
  rw [ref_Check_eq (by omega)]
  simp only [Option.bind_some, corebanklaw14_TierFlat.j0]
  by_cases hc : checkT l0 = 0
  · rw [if_pos hc]
    by_cases c1 : a1 < 0
    · simp [c1, live_true]
    rw [if_neg c1]
    by_cases c2 : a1 > 1000000
    · simp [c2, live_true]
    · rw [if_neg (by simpa using c2)]
      exact flat_loop hc (by omega) (by omega) (okN_i64.1 h2) _ 59 0 (by omega) (by omega) rfl (by have := (good_of hc).len; omega)
  · simp [hc, live_true]
end Go.Proofs.Ytlmabdiodopidaa.Pure
