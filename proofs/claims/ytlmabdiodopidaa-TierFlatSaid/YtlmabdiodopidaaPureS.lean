/- The plain law of slices: their sum, their grains. -/
import Derived.Test.YtlmabdiodopidaaPureT
import Derived.Test.YtlmabdiodopidaaPureG
namespace Go.Proofs.Ytlmabdiodopidaa.G
open Go.RowKit Go.Proofs.Ytlmabdiodopidaa.P Go.Proofs.YtlmabdiodopidaaW.PrintWords
/-- the keys ascend -/
def Asc : List S50 → Prop
  | [] => True
  | [_] => True
  | t :: u :: r => t.f0 < u.f0 ∧ Asc (u :: r)
theorem rd50_cons {t : S50} {l : List S50} {i : Int} (h : 0 ≤ i) : rd_T50 (t :: l) (i + 1) = rd_T50 l i := by
  unfold rd_T50
  rw [show (i + 1).toNat = i.toNat + 1 by omega, List.getD_cons_succ]
theorem asc_of : ∀ l : List S50, (∀ i : Int, 1 ≤ i → i < l.length → (rd_T50 l (i - 1)).f0 < (rd_T50 l i).f0) → Asc l
  | [], _ => trivial
  | [_], _ => trivial
  | t :: u :: r, h => by
    refine ⟨?_, asc_of (u :: r) fun i h1 h2 => ?_⟩
    · have := h 1 (by omega) (by simp; omega)
      simpa [rd_T50] using this
    · have := h (i + 1) (by omega) (by simp at h2 ⊢; omega)
      rwa [show i + 1 - 1 = (i - 1) + 1 by omega, rd50_cons (by omega), rd50_cons (by omega)] at this
def sumP : List S43 → Int
  | [] => 0
  | s :: r => s.f0 + sumP r
theorem sumP_app : ∀ a b : List S43, sumP (a ++ b) = sumP a + sumP b
  | [], b => by simp [sumP]
  | s :: a, b => by simp only [List.cons_append, sumP, sumP_app a b]; omega
theorem sumG_app (w : Int) : ∀ a b : List S43, sumG w (a ++ b) = sumG w a + sumG w b
  | [], b => by simp [sumG]
  | s :: a, b => by simp only [List.cons_append, sumG, sumG_app w a b]; omega
/-- a book's tier -/
def okT (t : S50) : Prop := 0 ≤ t.f0 ∧ 0 ≤ t.f1 ∧ t.f1 ≤ 1000000
/-- a part -/
def okP (n : Int) (s : S43) : Prop := 1 ≤ s.f0 ∧ s.f0 ≤ n ∧ 0 ≤ s.f1 ∧ s.f1 ≤ 1000000
theorem partsL_ok (n : Int) : ∀ l : List S50, (∀ t ∈ l, okT t) → ∀ s ∈ partsL n l, okP n s
  | [], _ => by simp [partsL]
  | [t], h => by
    have ht := h t (by simp)
    unfold okT at ht
    unfold partsL
    split
    · intro s hs
      simp only [List.mem_singleton] at hs
      subst hs
      unfold okP
      simp only
      omega
    · simp
  | t :: u :: r, h => by
    have ht := h t (by simp)
    have ih := partsL_ok n (u :: r) fun x hx => h x (by simp at hx ⊢; exact .inr hx)
    have hm := mn_le n u.f0
    unfold okT at ht
    unfold partsL
    intro s hs
    rw [List.mem_append] at hs
    rcases hs with hs | hs
    · split at hs
      · simp only [List.mem_singleton] at hs
        subst hs
        unfold okP
        simp only
        omega
      · simp at hs
    · exact ih s hs
theorem partsL_sum (n : Int) : ∀ (l : List S50) (t : S50), Asc (t :: l) → sumP (partsL n (t :: l)) = if t.f0 < n then n - t.f0 else 0
  | [], t, _ => by unfold partsL; split <;> simp [sumP]
  | u :: r, t, h => by
    obtain ⟨h1, h2⟩ := h
    have ih := partsL_sum n r u h2
    unfold partsL
    rw [sumP_app, ih]
    have hm : mn n u.f0 = if u.f0 < n then u.f0 else n := by unfold mn; split <;> (try split) <;> omega
    rw [hm]
    by_cases c1 : u.f0 < n
    · rw [if_pos c1, if_pos c1, if_pos h1, if_pos (by omega)]
      simp only [sumP]
      omega
    · rw [if_neg c1, if_neg c1]
      by_cases c2 : t.f0 < n
      · simp [c2, sumP]
      · simp [c2, sumP]
/-- more gives no less -/
theorem partsL_mono {n m : Int} (h : n ≤ m) : ∀ l : List S50, (∀ t ∈ l, okT t) → sumG 1 (partsL n l) ≤ sumG 1 (partsL m l)
  | [], _ => by simp [partsL]
  | [t], hl => by
    have ht := hl t (by simp)
    unfold okT at ht
    unfold partsL
    by_cases c : t.f0 < n
    · rw [if_pos c, if_pos (by omega)]
      simp only [sumG, Int.mul_one, Int.add_zero]
      exact Int.mul_le_mul_of_nonneg_right (by omega) ht.2.1
    · rw [if_neg c]
      split
      · have := Int.mul_nonneg (a := m - t.f0) (b := t.f1) (by omega) ht.2.1
        simp only [sumG, Int.mul_one, Int.add_zero]
        exact this
      · exact Int.le_refl _
  | t :: u :: r, hl => by
    have ht := hl t (by simp)
    have ih := partsL_mono h (u :: r) fun x hx => hl x (by simp at hx ⊢; exact .inr hx)
    have hm : mn n u.f0 ≤ mn m u.f0 := by unfold mn; split <;> split <;> omega
    unfold okT at ht
    unfold partsL
    rw [sumG_app, sumG_app]
    refine Int.add_le_add ?_ ih
    by_cases c : t.f0 < mn n u.f0
    · rw [if_pos c, if_pos (by omega)]
      simp only [sumG, Int.mul_one, Int.add_zero]
      exact Int.mul_le_mul_of_nonneg_right (by omega) ht.2.1
    · rw [if_neg c]
      split
      · have := Int.mul_nonneg (a := mn m u.f0 - t.f0) (b := t.f1) (by omega) ht.2.1
        simp only [sumG, Int.mul_one, Int.add_zero]
        exact this
      · exact Int.le_refl _
theorem sumG_nonneg {w : Int} (hw : 0 ≤ w) : ∀ l : List S43, (∀ s ∈ l, 0 ≤ s.f0 ∧ 0 ≤ s.f1) → 0 ≤ sumG w l
  | [], _ => by simp [sumG]
  | s :: r, h => by
    have hs := h s (by simp)
    have := sumG_nonneg hw r fun x hx => h x (by simp [hx])
    have := Int.mul_nonneg (Int.mul_nonneg hs.1 hs.2) hw
    simp only [sumG]
    omega
/-- one rate -/
theorem sumG_flat {r w : Int} : ∀ l : List S43, (∀ s ∈ l, s.f1 = r) → sumG w l = sumP l * r * w
  | [], _ => by simp [sumG, sumP]
  | s :: l, h => by
    have hs := h s (by simp)
    have ih := sumG_flat (r := r) (w := w) l fun x hx => h x (by simp [hx])
    simp only [sumG, sumP, ih, hs, Int.add_mul]
theorem good_ok {l : List S50} (g : Good l) : ∀ t ∈ l, okT t := fun t ht => by
  have := g.ok t ht
  unfold okT
  omega
theorem rateL_ok {s : Int} : ∀ (l : List S50) (a : Int), (∀ t ∈ l, okT t) → 0 ≤ a → a ≤ 1000000 → 0 ≤ rateL s l a ∧ rateL s l a ≤ 1000000
  | [], a, _, h1, h2 => ⟨h1, h2⟩
  | t :: l, a, h, h1, h2 => by
    have ht := h t (by simp)
    unfold okT at ht
    unfold rateL
    exact rateL_ok l _ (fun x hx => h x (by simp [hx])) (by split <;> omega) (by split <;> omega)
theorem slicesB_ok {l : List S50} {m : Bool} {b : Int} (hb : okI b) : ∀ s ∈ slicesB l m b, okP (szB b) s := by
  have hz := szB_ok hb
  unfold slicesB
  split
  · simp
  · rename_i h
    have hc : checkT l = 0 := Decidable.byContradiction fun hc => h (.inl hc)
    have g := good_ok (good_of hc)
    split
    · exact partsL_ok _ l g
    · intro s hs
      simp only [List.mem_singleton] at hs
      subst hs
      have hn : szB b ≠ 0 := fun e => h (.inr (.inr e))
      have := rateL_ok (s := szB b) l 0 g (by omega) (by omega)
      unfold okP rateB
      rw [if_pos hc]
      simp only
      omega
theorem okP_S {n : Int} (hn : n ≤ 9223372036854775807) {s : S43} (h : okP n s) : okS s := by unfold okP at h; unfold okS okI; omega
theorem okP_notbad {n : Int} : ∀ l : List S43, (∀ s ∈ l, okP n s) → l.any badS = false
  | [], _ => rfl
  | s :: l, h => by
    have hs := h s (by simp)
    unfold okP at hs
    rw [List.any_cons, okP_notbad l fun x hx => h x (by simp [hx])]
    simp [badS]
    omega
/-- Grains on slices. -/
theorem tier_Grains_slices {k : Nat} {l : List S50} {m : Bool} {b w : Int} (hk : 30 ≤ k) (hb : okI b) (hw : 0 ≤ w ∧ w ≤ 6412320000) : tier_Grains.f k (slicesB l m b) w = some (hi (sumG w (slicesB l m b)), lo (sumG w (slicesB l m b)), 0) := by
  have hz := szB_ok hb
  have ho := slicesB_ok (l := l) (m := m) hb
  rw [tier_Grains_eq hk fun s hs => okP_S hz.2 (ho s hs)]
  have hl := slicesB_len l m b
  have hn := okP_notbad _ ho
  unfold grainsB
  rw [if_neg (by omega), if_neg]
  rw [hn]
  simp
  omega
/-- the slices' parts together -/
theorem slicesB_sum {l : List S50} {m : Bool} {b : Int} (hb : okI b) (hc : checkT l = 0) (hl : l ≠ []) : sumP (slicesB l m b) = szB b := by
  have hz := szB_ok hb
  have g := good_of hc
  unfold slicesB
  by_cases h0 : szB b = 0
  · rw [if_pos (.inr (.inr h0)), h0]; rfl
  rw [if_neg (by simp [hc, hl, h0])]
  split
  · match l, hl, g with
    | t :: r, _, g =>
      have e : t.f0 = 0 := by simpa [rd_T50] using g.zero (by simp)
      rw [partsL_sum _ r t (asc_of _ g.up), e, if_pos (by omega)]
      omega
  · simp [sumP]
theorem slicesB_mono {l : List S50} {b c : Int} (hb : okI b) (hc : okI c) (h : szB b ≤ szB c) : sumG 1 (slicesB l true b) ≤ sumG 1 (slicesB l true c) := by
  have z1 := szB_ok hb
  have z2 := szB_ok hc
  have p := slicesB_ok (l := l) (m := true) hc
  by_cases h0 : checkT l ≠ 0 ∨ l = [] ∨ szB b = 0
  · have e : slicesB l true b = [] := by unfold slicesB; rw [if_pos h0]
    rw [e]
    exact sumG_nonneg (by omega) _ fun s hs => by have := p s hs; unfold okP at this; omega
  · have hk : checkT l = 0 := Decidable.byContradiction fun hc => h0 (.inl hc)
    have h1 : ¬ (checkT l ≠ 0 ∨ l = [] ∨ szB c = 0) := fun e => h0 (by
      rcases e with e | e | e
      · exact .inl e
      · exact .inr (.inl e)
      · exact .inr (.inr (by omega)))
    unfold slicesB
    rw [if_neg h0, if_neg h1, if_pos rfl, if_pos rfl]
    exact partsL_mono h l (good_ok (good_of hk))
end Go.Proofs.Ytlmabdiodopidaa.G
