/- Texts of this seat, joined: PureT, PureV, PureG, PureS, PureWA, PureW, PureH, PDay, LawSer. Lemmas for the claim's theorem. -/
import Derived.Laws.BitsAllLaws
import Derived.Test.YtlmabdiodopidaaJ11
section
set_option linter.unusedVariables false
set_option linter.unusedSimpArgs false
namespace Go.Proofs.Ytlmabdiodopidaa.G
open Go.RowKit Go.Proofs.Ytlmabdiodopidaa.P Go.Proofs.YtlmabdiodopidaaW.PrintWords

theorem rd50_mem {l : List S50} {x : Int} (h0 : 0 ≤ x) (h1 : x < l.length) : rd_T50 l x ∈ l := by
  unfold rd_T50
  rw [List.getD_eq_getElem?_getD, List.getElem?_eq_getElem (by omega), Option.getD_some]
  exact List.getElem_mem _
theorem drop50 {l : List S50} {x : Int} (h0 : 0 ≤ x) (h1 : x < l.length) : l.drop x.toNat = rd_T50 l x :: l.drop (x + 1).toNat := by
  unfold rd_T50
  rw [List.getD_eq_getElem?_getD, List.getElem?_eq_getElem (by omega), Option.getD_some, show (x + 1).toNat = x.toNat + 1 by omega]
  exact List.drop_eq_getElem_cons (by omega)

/-! ### Check -/
theorem ref_Check_l1 (l : List S50) (hl : l.length ≤ 6) : ∀ (d k : Nat) (x : Int), 1 ≤ x → x ≤ 7 → (7 - x).toNat = d → d + 1 ≤ k → ascTo l (if x ≤ l.length then x else l.length) →
    corebankref14_Check.l1 k l x = some (if ascB l = false then 10 else if l ≠ [] ∧ (rd_T50 l 0).f0 ≠ 0 then 1 else 0) := by
  intro d
  induction d with
  | zero =>
    intro k x h1 h2 hd hk ha
    obtain ⟨k, rfl, hk⟩ := step1 hk
    simp only [corebankref14_Check.l1]
    have hx : ¬ x < l.length := by omega
    rw [if_neg hx]
    have hy : ascB l = true := ascB_yes (fun i a b => ha i a (by split <;> omega))
    rw [hy]
    by_cases hn : l = []
    · subst hn; simp
    · have : 0 < l.length := List.length_pos_iff.2 hn
      rw [if_pos (by omega), if_pos (by omega)]
      by_cases hf : (rd_T50 l 0).f0 = 0
      · rw [if_pos hf]; simp [hf]
      · rw [if_neg hf]; simp [hf, hn]
  | succ d ih =>
    intro k x h1 h2 hd hk ha
    obtain ⟨k, rfl, hk⟩ := step1 hk
    simp only [corebankref14_Check.l1]
    by_cases hx : x < l.length
    · have e1 : wrap64 (x - 1) = x - 1 := w64 (by omega) (by omega)
      have e2 : wrap64 (x + 1) = x + 1 := w64 (by omega) (by omega)
      rw [if_pos hx, if_pos (by omega), e1, e2, if_pos (by omega), if_pos (by omega)]
      by_cases hv : (rd_T50 l x).f0 ≤ (rd_T50 l (x - 1)).f0
      · rw [if_pos hv, ascB_no h1 hx hv]; simp
      · rw [if_neg hv]
        refine ih k (x + 1) (by omega) (by omega) (by omega) (by omega) (fun i a b => ?_)
        by_cases hi : i = x
        · subst hi; omega
        · exact ha i a (by split at b <;> split <;> omega)
    · rw [if_neg hx]
      have hy : ascB l = true := ascB_yes (fun i a b => ha i a (by split <;> omega))
      rw [hy]
      by_cases hn : l = []
      · subst hn; simp
      · have : 0 < l.length := List.length_pos_iff.2 hn
        rw [if_pos (by omega), if_pos (by omega)]
        by_cases hf : (rd_T50 l 0).f0 = 0
        · rw [if_pos hf]; simp [hf]
        · rw [if_neg hf]; simp [hf, hn]
theorem ref_Check_l0 (l : List S50) (hl : l.length ≤ 6) : ∀ (d k : Nat) (x : Int), 0 ≤ x → x ≤ l.length → (l.length - x).toNat = d → d + 9 ≤ k → (∀ i : Int, 0 ≤ i → i < x → badT (rd_T50 l i) = false) →
    corebankref14_Check.l0 k l x = some (checkT l) := by
  intro d
  induction d with
  | zero =>
    intro k x h1 h2 hd hk ha
    obtain ⟨k, rfl, hk⟩ := step1 hk
    simp only [corebankref14_Check.l0]
    rw [if_neg (by omega), ref_Check_l1 l hl 6 k 1 (by omega) (by omega) (by omega) (by omega) (fun i a b => by split at b <;> omega)]
    unfold checkT
    have hl' : ¬ 6 < l.length := by omega
    rw [if_neg hl', bad_none (fun i a b => ha i a (by omega))]
    simp
  | succ d ih =>
    intro k x h1 h2 hd hk ha
    obtain ⟨k, rfl, hk⟩ := step1 (n := d + 9) hk
    simp only [corebankref14_Check.l0]
    have hx : x < l.length := by omega
    have e2 : wrap64 (x + 1) = x + 1 := w64 (by omega) (by omega)
    rw [if_pos hx, if_pos h1, e2]
    have bad := fun h => check_bad (l := l) (by omega) h1 hx h
    by_cases c1 : (rd_T50 l x).f0 < 0
    · rw [if_pos c1, bad (by unfold badT; simp; omega)]
    rw [if_neg c1]
    by_cases c2 : (rd_T50 l x).f0 > 1000000000000
    · rw [if_pos c2, bad (by unfold badT; simp; omega)]
    rw [if_neg c2]
    by_cases c3 : (rd_T50 l x).f1 < 0
    · rw [if_pos c3, bad (by unfold badT; simp; omega)]
    rw [if_neg c3]
    by_cases c4 : (rd_T50 l x).f1 > 1000000
    · rw [if_pos c4, bad (by unfold badT; simp; omega)]
    rw [if_neg c4]
    refine ih k (x + 1) (by omega) (by omega) (by omega) (by omega) (fun i a b => ?_)
    by_cases hi : i = x
    · subst hi; unfold badT; simp; omega
    · exact ha i a (by omega)
theorem ref_Check_eq {k : Nat} {l : List S50} (hk : 20 ≤ k) : corebankref14_Check.f k l = some (checkT l) := by
  unfold corebankref14_Check.f
  by_cases hl : (l.length : Int) > 6
  · rw [if_pos hl]; unfold checkT; rw [if_pos (by omega)]
  · rw [if_neg hl]
    exact ref_Check_l0 l (by omega) _ k 0 (by omega) (by omega) rfl (by omega) (fun i a b => by omega)
/-- tiers that are accepted -/
structure Good (l : List S50) : Prop where
  len : l.length ≤ 6
  ok : ∀ x ∈ l, 0 ≤ x.f0 ∧ x.f0 ≤ 1000000000000 ∧ 0 ≤ x.f1 ∧ x.f1 ≤ 1000000
  up : ∀ i : Int, 1 ≤ i → i < l.length → (rd_T50 l (i - 1)).f0 < (rd_T50 l i).f0
  zero : l ≠ [] → (rd_T50 l 0).f0 = 0
theorem good_of {l : List S50} (h : checkT l = 0) : Good l := by
  unfold checkT at h
  by_cases c1 : 6 < l.length
  · rw [if_pos c1] at h; omega
  rw [if_neg c1] at h
  by_cases c2 : l.any badT = true
  · rw [if_pos c2] at h; omega
  rw [if_neg c2] at h
  by_cases c3 : ascB l = false
  · rw [if_pos c3] at h; omega
  rw [if_neg c3] at h
  by_cases c4 : l ≠ [] ∧ (rd_T50 l 0).f0 ≠ 0
  · rw [if_pos c4] at h; omega
  refine ⟨by omega, fun x hx => ?_, fun i h1 h2 => ?_, fun hn => ?_⟩
  · have hb : badT x = false := by
      have := List.any_eq_false.1 (by simpa using c2) x hx
      simpa using this
    unfold badT at hb
    simp at hb
    omega
  · by_cases hv : (rd_T50 l i).f0 ≤ (rd_T50 l (i - 1)).f0
    · exact absurd (ascB_no h1 h2 hv) c3
    · omega
  · exact Decidable.byContradiction fun hz => c4 ⟨hn, hz⟩

/-! ### sizes and rates -/
/-- the size of a balance -/
def szB (b : Int) : Int := if b = -9223372036854775808 then 9223372036854775807 else if b < 0 then -b else b
theorem szB_ok {b : Int} (h : okI b) : 0 ≤ szB b ∧ szB b ≤ 9223372036854775807 := by unfold okI at h; unfold szB; split <;> (try split) <;> omega
theorem tier_size_eq {b : Int} (h : okI b) : tier_size.f b = some (szB b) := by
  unfold okI at h
  unfold tier_size.f szB mx
  by_cases h0 : b = -9223372036854775808
  · subst h0; rfl
  · rw [if_neg (by omega), w64 (by omega) (by omega), if_neg h0]
    simp only [Option.some.injEq]
    split <;> split <;> omega
theorem ref_Size_eq {b : Int} (h : okI b) : corebankref14_Size.f b = some (szB b) := by
  unfold okI at h
  unfold corebankref14_Size.f szB
  split
  · rfl
  · split
    · rw [w64 (by omega) (by omega)]
    · rfl
/-- the rate of the last tier that is reached -/
def rateL (s : Int) : List S50 → Int → Int
  | [], acc => acc
  | t :: l, acc => rateL s l (if t.f0 ≤ s then t.f1 else acc)
theorem tier_Rate_loop {b : Int} (hb : okI b) (l : List S50) (hl : l.length ≤ 6) : ∀ (d k : Nat) (x acc : Int), 0 ≤ x → x ≤ l.length → (l.length - x).toNat = d → d + 1 ≤ k → tier_Rate.l0 k b acc l l.length x = some (rateL (szB b) (l.drop x.toNat) acc) := by
  intro d
  induction d with
  | zero =>
    intro k x acc h1 h2 hd hk
    obtain ⟨k, rfl, _⟩ := step1 hk
    simp only [tier_Rate.l0]
    rw [if_neg (by omega), List.drop_eq_nil_of_le (by omega)]
    rfl
  | succ d ih =>
    intro k x acc h1 h2 hd hk
    obtain ⟨k, rfl, _⟩ := step1 hk
    have hx : x < l.length := by omega
    simp only [tier_Rate.l0]
    rw [if_pos hx, if_pos h1, if_pos hx, tier_size_eq hb, w64 (by omega) (by omega), drop50 h1 hx]
    simp only [Option.bind_some, rateL]
    split <;> exact ih k (x + 1) _ (by omega) (by omega) (by omega) (by omega)
theorem ref_Rate_loop {b : Int} (hb : okI b) (l : List S50) (hl : l.length ≤ 6) : ∀ (d k : Nat) (x acc : Int), 0 ≤ x → x ≤ l.length → (l.length - x).toNat = d → d + 1 ≤ k → corebankref14_Rate.l0 k l b acc x = some (rateL (szB b) (l.drop x.toNat) acc) := by
  intro d
  induction d with
  | zero =>
    intro k x acc h1 h2 hd hk
    obtain ⟨k, rfl, _⟩ := step1 hk
    simp only [corebankref14_Rate.l0]
    rw [if_neg (by omega), List.drop_eq_nil_of_le (by omega)]
    rfl
  | succ d ih =>
    intro k x acc h1 h2 hd hk
    obtain ⟨k, rfl, _⟩ := step1 hk
    have hx : x < l.length := by omega
    simp only [corebankref14_Rate.l0]
    rw [if_pos hx, if_pos h1, ref_Size_eq hb, w64 (by omega) (by omega), drop50 h1 hx]
    simp only [Option.bind_some, rateL]
    split <;> exact ih k (x + 1) _ (by omega) (by omega) (by omega) (by omega)
/-- the rate of a balance -/
def rateB (l : List S50) (b : Int) : Int := if checkT l = 0 then rateL (szB b) l 0 else 0
theorem tier_Rate_eq {k : Nat} {l : List S50} {b : Int} (hk : 20 ≤ k) (hb : okI b) : tier_Rate.f k l b = some (rateB l b) := by
  unfold tier_Rate.f tier_Check.f rateB
  simp only [Option.bind_some]
  by_cases h : checkT l = 0
  · rw [if_pos h, if_pos h, tier_Rate_loop hb l (good_of h).len _ k 0 0 (by omega) (by omega) rfl (by have := (good_of h).len; omega)]
    rfl
  · rw [if_neg h, if_neg h]
theorem ref_Rate_eq {k : Nat} {l : List S50} {b : Int} (hk : 20 ≤ k) (hb : okI b) : corebankref14_Rate.f k l b = some (rateB l b) := by
  unfold corebankref14_Rate.f rateB
  rw [ref_Check_eq hk]
  simp only [Option.bind_some]
  by_cases h : checkT l = 0
  · rw [if_pos h, if_pos h, ref_Rate_loop hb l (good_of h).len _ k 0 0 (by omega) (by omega) rfl (by have := (good_of h).len; omega)]
    rfl
  · rw [if_neg h, if_neg h]

/-! ### slices -/
/-- the parts of n -/
def partsL (n : Int) : List S50 → List S43
  | [] => []
  | [t] => if t.f0 < n then [⟨n - t.f0, t.f1⟩] else []
  | t :: u :: l => (if t.f0 < mn n u.f0 then [⟨mn n u.f0 - t.f0, t.f1⟩] else []) ++ partsL n (u :: l)
theorem drop50_two {l : List S50} {x : Int} (h0 : 0 ≤ x) (h1 : x + 1 < l.length) : l.drop x.toNat = rd_T50 l x :: rd_T50 l (x + 1) :: l.drop (x + 2).toNat := by
  rw [drop50 h0 (by omega), drop50 (x := x + 1) (by omega) h1, show x + 1 + 1 = x + 2 by omega]
theorem partsL_step {l : List S50} {x n : Int} (h0 : 0 ≤ x) (h1 : x + 1 < l.length) : partsL n (l.drop x.toNat) = (if (rd_T50 l x).f0 < mn n (rd_T50 l (x + 1)).f0 then [⟨mn n (rd_T50 l (x + 1)).f0 - (rd_T50 l x).f0, (rd_T50 l x).f1⟩] else []) ++ partsL n (l.drop (x + 1).toNat) := by
  rw [drop50_two h0 h1, partsL, drop50 (x := x + 1) (by omega) h1, show x + 1 + 1 = x + 2 by omega]
theorem partsL_last {l : List S50} {x n : Int} (h0 : 0 ≤ x) (h1 : x < l.length) (h2 : ¬ x + 1 < l.length) : partsL n (l.drop x.toNat) = (if (rd_T50 l x).f0 < n then [⟨n - (rd_T50 l x).f0, (rd_T50 l x).f1⟩] else []) := by
  rw [drop50 h0 h1, List.drop_eq_nil_of_le (by omega), partsL]
theorem mn_le (a b : Int) : mn a b ≤ a ∧ mn a b ≤ b ∧ (mn a b = a ∨ mn a b = b) := by unfold mn; split <;> omega
theorem tier_Slices_loop {l : List S50} (g : Good l) {n : Int} (hn : 0 ≤ n ∧ n ≤ 9223372036854775807) : ∀ (d k : Nat) (x : Int) (acc : List S43), 0 ≤ x → x ≤ l.length → (l.length - x).toNat = d → d + 1 ≤ k → acc.length + d ≤ 100 →
    tier_Slices.l0 k l n acc l l.length x = some (acc ++ partsL n (l.drop x.toNat)) := by
  have hl := g.len
  intro d
  induction d with
  | zero =>
    intro k x acc h1 h2 hd hk _
    obtain ⟨k, rfl, _⟩ := step1 hk
    simp only [tier_Slices.l0]
    rw [if_neg (by omega), List.drop_eq_nil_of_le (by omega), partsL, List.append_nil]
  | succ d ih =>
    intro k x acc h1 h2 hd hk ha
    obtain ⟨k, rfl, _⟩ := step1 hk
    have hx : x < l.length := by omega
    obtain ⟨b1, b2, b3, b4⟩ := g.ok _ (rd50_mem h1 hx)
    have e2 : wrap64 (x + 1) = x + 1 := w64 (by omega) (by omega)
    simp only [tier_Slices.l0]
    rw [if_pos hx, if_pos h1, if_pos hx, e2]
    by_cases hy : x + 1 < l.length
    · obtain ⟨c1, c2, c3, c4⟩ := g.ok _ (rd50_mem (x := x + 1) (by omega) hy)
      have m1 := mn_le n (rd_T50 l (x + 1)).f0
      rw [if_pos hy, if_pos (by omega), partsL_step h1 hy]
      by_cases hc : mn n (rd_T50 l (x + 1)).f0 > (rd_T50 l x).f0
      · rw [if_pos hc, if_pos (by omega), w64 (by omega) (by omega), ih k (x + 1) _ (by omega) (by omega) (by omega) (by omega) (by rw [List.length_append, List.length_singleton]; omega), if_pos (by omega), List.append_assoc]
      · rw [if_neg hc, ih k (x + 1) _ (by omega) (by omega) (by omega) (by omega) (by omega), if_neg (by omega), List.nil_append]
    · rw [if_neg hy, partsL_last h1 hx hy]
      have en : l.drop (x + 1).toNat = [] := List.drop_eq_nil_of_le (by omega)
      by_cases hc : n > (rd_T50 l x).f0
      · rw [if_pos hc, if_pos (by omega), w64 (by omega) (by omega), ih k (x + 1) _ (by omega) (by omega) (by omega) (by omega) (by rw [List.length_append, List.length_singleton]; omega), if_pos (by omega), en, partsL, List.append_nil]
      · rw [if_neg hc, ih k (x + 1) _ (by omega) (by omega) (by omega) (by omega) (by omega), if_neg (by omega), en, partsL]
theorem ref_Slices_loop {l : List S50} (g : Good l) {n : Int} (hn : 0 ≤ n ∧ n ≤ 9223372036854775807) : ∀ (d k : Nat) (x : Int) (acc : List S43), 0 ≤ x → x ≤ l.length → (l.length - x).toNat = d → 2 * d + 1 ≤ k → acc.length + d ≤ 100 →
    corebankref14_Slices.l0 k l acc n x = some (acc ++ partsL n (l.drop x.toNat)) := by
  have hl := g.len
  intro d
  induction d with
  | zero =>
    intro k x acc h1 h2 hd hk _
    obtain ⟨k, rfl, _⟩ := step1 hk
    simp only [corebankref14_Slices.l0]
    rw [if_neg (by omega), List.drop_eq_nil_of_le (by omega), partsL, List.append_nil]
  | succ d ih =>
    intro k x acc h1 h2 hd hk ha
    obtain ⟨k, rfl, _⟩ := step1 (n := 2 * d + 2) (by omega)
    obtain ⟨k, rfl, _⟩ := step1 (n := 2 * d + 1) (k := k) (by omega)
    have hx : x < l.length := by omega
    obtain ⟨b1, b2, b3, b4⟩ := g.ok _ (rd50_mem h1 hx)
    have e2 : wrap64 (x + 1) = x + 1 := w64 (by omega) (by omega)
    simp only [corebankref14_Slices.l0]
    rw [if_pos hx, e2]
    by_cases hy : x + 1 < l.length
    · obtain ⟨c1, c2, c3, c4⟩ := g.ok _ (rd50_mem (x := x + 1) (by omega) hy)
      rw [if_pos hy, if_pos (by omega), partsL_step h1 hy]
      simp only [corebankref14_Slices.j2]
      rw [e2]
      by_cases hm : (rd_T50 l (x + 1)).f0 < n
      · have em : mn n (rd_T50 l (x + 1)).f0 = (rd_T50 l (x + 1)).f0 := by unfold mn; rw [if_pos hm]
        rw [if_pos (by simpa using hm), if_pos (by omega), if_pos hy, if_pos h1, if_pos hx, em]
        by_cases hc : (rd_T50 l (x + 1)).f0 > (rd_T50 l x).f0
        · rw [if_pos hc, if_pos (by omega), w64 (by omega) (by omega), ih k (x + 1) _ (by omega) (by omega) (by omega) (by omega) (by rw [List.length_append, List.length_singleton]; omega), if_pos (by omega), List.append_assoc]
        · rw [if_neg hc, ih k (x + 1) _ (by omega) (by omega) (by omega) (by omega) (by omega), if_neg (by omega), List.nil_append]
      · have em : mn n (rd_T50 l (x + 1)).f0 = n := by unfold mn; rw [if_neg hm]
        rw [if_neg (by simpa using hm), if_pos h1, if_pos hx, em]
        by_cases hc : n > (rd_T50 l x).f0
        · rw [if_pos hc, if_pos (by omega), w64 (by omega) (by omega), ih k (x + 1) _ (by omega) (by omega) (by omega) (by omega) (by rw [List.length_append, List.length_singleton]; omega), if_pos (by omega), List.append_assoc]
        · rw [if_neg hc, ih k (x + 1) _ (by omega) (by omega) (by omega) (by omega) (by omega), if_neg (by omega), List.nil_append]
    · rw [if_neg hy, partsL_last h1 hx hy]
      simp only [corebankref14_Slices.j2]
      rw [if_neg (by simp), if_pos h1, if_pos hx, e2]
      have en : l.drop (x + 1).toNat = [] := List.drop_eq_nil_of_le (by omega)
      by_cases hc : n > (rd_T50 l x).f0
      · rw [if_pos hc, if_pos (by omega), w64 (by omega) (by omega), ih k (x + 1) _ (by omega) (by omega) (by omega) (by omega) (by rw [List.length_append, List.length_singleton]; omega), if_pos (by omega), en, partsL, List.append_nil]
      · rw [if_neg hc, ih k (x + 1) _ (by omega) (by omega) (by omega) (by omega) (by omega), if_neg (by omega), en, partsL]
/-- the slices of a balance -/
def slicesB (l : List S50) (m : Bool) (b : Int) : List S43 := if checkT l ≠ 0 ∨ l = [] ∨ szB b = 0 then [] else if m = true then partsL (szB b) l else [⟨szB b, rateB l b⟩]
theorem tier_Slices_eq {k : Nat} {l : List S50} {m : Bool} {b : Int} (hk : 30 ≤ k) (hb : okI b) : tier_Slices.f k l m b = some (slicesB l m b) := by
  obtain ⟨k, rfl, hk⟩ := step1 (n := 29) hk
  have hn := szB_ok hb
  unfold tier_Slices.f tier_Check.f slicesB
  rw [tier_size_eq hb]
  simp only [Option.bind_some, tier_Slices.j0]
  by_cases hl : l = []
  · subst hl; simp
  have h0 : ¬ (l.length : Int) = 0 := fun h => hl (List.length_eq_zero_iff.1 (by omega))
  rw [if_neg h0]
  by_cases hc : checkT l = 0
  · rw [if_pos hc]
    by_cases hz : szB b = 0
    · simp [hz]
    · have e1 : (szB b == 0) = false := by simpa using hz
      have e2 : ¬ (checkT l ≠ 0 ∨ l = [] ∨ szB b = 0) := by simp [hc, hl, hz]
      rw [if_neg e2, e1]
      simp only [Bool.false_eq_true, if_false]
      by_cases hm : m = true
      · rw [if_pos hm, if_pos hm, tier_Slices_loop (good_of hc) hn _ k 0 [] (by omega) (by omega) rfl (by have := (good_of hc).len; omega) (by have := (good_of hc).len; simp; omega)]
        rfl
      · rw [if_neg hm, if_neg hm, tier_Rate_eq (by omega) hb]
        rfl
  · simp [hc]
theorem ref_Slices_eq {k : Nat} {l : List S50} {m : Bool} {b : Int} (hk : 30 ≤ k) (hb : okI b) : corebankref14_Slices.f k l m b = some (slicesB l m b) := by
  obtain ⟨k, rfl, hk⟩ := step1 (n := 29) hk
  have hn := szB_ok hb
  unfold corebankref14_Slices.f slicesB
  simp only [Option.bind_some]
  rw [ref_Size_eq hb, ref_Check_eq (by omega)]
  simp only [Option.bind_some, corebankref14_Slices.j0]
  by_cases hc : checkT l = 0
  · rw [if_pos hc]
    by_cases hl : l = []
    · subst hl; simp
    have h0 : ¬ (l.length : Int) = 0 := fun h => hl (List.length_eq_zero_iff.1 (by omega))
    rw [if_neg h0]
    by_cases hz : szB b = 0
    · simp [hz]
    · have e1 : (szB b == 0) = false := by simpa using hz
      have e2 : ¬ (checkT l ≠ 0 ∨ l = [] ∨ szB b = 0) := by simp [hc, hl, hz]
      rw [if_neg e2, e1]
      simp only [Bool.false_eq_true, if_false]
      by_cases hm : m = true
      · rw [if_pos hm, if_pos hm, ref_Slices_loop (good_of hc) hn _ k 0 [] (by omega) (by omega) rfl (by have := (good_of hc).len; omega) (by have := (good_of hc).len; simp; omega)]
        rfl
      · rw [if_neg hm, if_neg hm, ref_Rate_eq (by omega) hb]
        rfl
  · simp [hc]
end Go.Proofs.Ytlmabdiodopidaa.G
end
section
set_option linter.unusedVariables false
set_option linter.unusedSimpArgs false
namespace Go.Proofs.Ytlmabdiodopidaa.G
open Go.RowKit Go.Proofs.Ytlmabdiodopidaa.P Go.Proofs.YtlmabdiodopidaaW.PrintWords

theorem absI_nonneg (x : Int) : 0 ≤ absI x := by unfold absI; split <;> omega
theorem wide_abs_eq {n : Int} (h : okI n) : wide_abs.f n = some (absI n) := by
  unfold okI at h
  unfold wide_abs.f absI
  split
  · simp only [IntKind.wrap_u64, Option.some.injEq]; omega
  · simp only [IntKind.wrap_u64, Option.some.injEq]; omega
theorem absI_okU {n : Int} (h : okI n) : okU (absI n) := by unfold okI at h; unfold okU absI; split <;> omega
theorem wide_absolute_eq {a b : Int} (h : okW a b) : wide_absolute.f a b = some (hi (absI (val a b)), lo (absI (val a b))) := by
  have h' := h
  obtain ⟨⟨h1, h2⟩, h3, h4⟩ := h
  unfold wide_absolute.f
  by_cases ha : a < 0
  · rw [if_pos ha]
    unfold wide_negate.f
    rw [if_pos h']
    have hv : val a b < 0 := by unfold val; omega
    simp only [Option.bind_some, Option.some.injEq, Prod.mk.injEq, IntKind.wrap_u64]
    unfold absI
    rw [if_pos hv]
    refine ⟨?_, rfl⟩
    unfold wrap64 hi
    unfold val at hv ⊢
    omega
  · rw [if_neg ha]
    have hv : ¬ val a b < 0 := by unfold val; omega
    simp only [Option.some.injEq, Prod.mk.injEq, IntKind.wrap_u64]
    unfold absI
    rw [if_neg hv]
    unfold hi lo val
    omega
theorem mag_ok {a b : Int} (h : okW a b) : okU (hi (absI (val a b))) ∧ okU (lo (absI (val a b))) := by
  obtain ⟨⟨h1, h2⟩, h3, h4⟩ := h
  unfold okU hi lo absI
  unfold val
  split <;> omega
/-- a number with a sign and a size -/
def sgn (b : Bool) (m : Int) : Int := if b = true then -m else m
theorem signed_eq {k : Nat} {a b : Int} {m : Bool} (hk : 1 ≤ k) (h1 : okU a) (h2 : okU b) : wide_size_signed.f k a b m = some (out (sgn m (val a b))) := by
  obtain ⟨k, rfl⟩ : ∃ j, k = j + 1 := ⟨k - 1, by omega⟩
  unfold okU at h1 h2
  have key : ∀ c : Bool, (c = true ↔ ¬ fits (sgn m (val a b))) → wide_size_signed.j0 (k + 1) m c a b = some (out (sgn m (val a b))) := by
    intro c hc
    simp only [wide_size_signed.j0]
    by_cases hcc : c = true
    · rw [if_pos hcc]
      unfold out
      rw [if_neg (hc.1 hcc)]
    · rw [if_neg hcc]
      have hf : fits (sgn m (val a b)) := by
        refine Decidable.byContradiction fun hn => hcc (hc.2 hn)
      unfold out
      rw [if_pos hf]
      cases m
      · rw [if_neg (by simp)]
        unfold sgn fits val at hf
        simp at hf
        unfold sgn hi lo wrap64 val
        simp
        omega
      · rw [if_pos rfl]
        unfold sgn fits val at hf
        simp at hf
        unfold wide_negate.f
        have ho : okW (wrap64 a) b := by unfold okW okI okU wrap64; omega
        rw [if_pos ho]
        simp only [Option.bind_some, Option.some.injEq, Prod.mk.injEq, and_true]
        unfold sgn hi lo wrap64 val
        simp
        omega
  unfold wide_size_signed.f
  split
  · refine key true ?_
    simp
    unfold fits sgn val
    cases m <;> simp <;> omega
  · split
    · rename_i he
      cases m
      · rw [if_neg (by simp)]
        refine key true ?_
        simp
        unfold fits sgn val
        simp; omega
      · rw [if_pos rfl]
        refine key _ ?_
        unfold fits sgn val
        simp; omega
    · refine key false ?_
      unfold fits sgn val
      cases m <;> simp <;> omega

theorem sgn_mul (a n : Int) : a * n = sgn (decide (a < 0) != decide (n < 0)) (absI a * absI n) := by
  unfold sgn absI
  by_cases h1 : a < 0 <;> by_cases h2 : n < 0 <;> simp [h1, h2, Int.neg_mul, Int.mul_neg]
theorem fits_small {s : Int} (b : Bool) (h0 : 0 ≤ s) (h : fits (sgn b s)) : s < 340282366920938463463374607431768211456 := by
  unfold fits sgn at h
  cases b <;> simp at h <;> omega
theorem val_neg_iff {a b : Int} (h : okW a b) : a < 0 ↔ val a b < 0 := by
  obtain ⟨⟨h1, h2⟩, h3, h4⟩ := h
  unfold val; omega
theorem wide_Scale_eq {k : Nat} {a b n : Int} (hk : 1 ≤ k) (h : okW a b) (hn : okI n) : wide_Scale.f k a b n = some (out (val a b * n)) := by
  unfold wide_Scale.f
  rw [wide_absolute_eq h, wide_abs_eq hn]
  simp only [Option.bind_some]
  obtain ⟨m1, m2⟩ := mag_ok h
  have m3 := absI_okU hn
  unfold wide_size_times.f
  rw [if_pos ⟨m1, m2, m3, by unfold okU; omega⟩]
  simp only [Option.bind_some, val_hi_lo, Int.add_zero]
  have e := sgn_mul (val a b) n
  have z := Int.mul_nonneg (absI_nonneg (val a b)) (absI_nonneg n)
  have hs : decide (a < 0) = decide (val a b < 0) := by rw [decide_eq_decide]; exact val_neg_iff h
  rw [hs, e]
  generalize (decide (val a b < 0) != decide (n < 0)) = s
  generalize absI (val a b) * absI n = M at *
  by_cases hM : M < 340282366920938463463374607431768211456
  · rw [if_pos (by simpa using hM)]
    have u1 : hi M % 18446744073709551616 = hi M := by unfold hi; omega
    have u2 : okU (hi M) := by unfold okU hi; omega
    have u3 : okU (lo M) := by unfold okU lo; omega
    rw [u1]
    cases s
    · rw [if_neg (by simp), signed_eq hk u2 u3, val_hi_lo]
      rfl
    · rw [if_pos rfl, signed_eq hk u2 u3, val_hi_lo]
      simp only [Option.bind_some]
      by_cases h0 : M = 0
      · subst h0; rfl
      · have : (!(hi M == 0) || !(lo M == 0)) = true := by
          have : hi M ≠ 0 ∨ lo M ≠ 0 := by unfold hi lo; omega
          rcases this with h | h <;> simp [h]
        rw [this]
  · rw [if_neg (by simpa using hM)]
    unfold out
    rw [if_neg (fun hf => hM (fits_small s z hf))]
theorem wide_Mul_eq {a b : Int} (ha : okI a) (hb : okI b) : wide_Mul.f a b = some (hi (a * b), lo (a * b)) := by
  unfold wide_Mul.f
  rw [wide_abs_eq ha, wide_abs_eq hb]
  simp only [Option.bind_some]
  unfold bits_Mul64.f
  rw [if_pos ⟨absI_okU ha, absI_okU hb⟩]
  simp only [Option.bind_some]
  have e := sgn_mul a b
  have z := Int.mul_nonneg (absI_nonneg a) (absI_nonneg b)
  have l : absI a * absI b ≤ 85070591730234615865843651857942052864 := by
    have h1 : absI a ≤ 9223372036854775808 := by unfold okI at ha; unfold absI; split <;> omega
    have h2 : absI b ≤ 9223372036854775808 := by unfold okI at hb; unfold absI; split <;> omega
    have := Int.mul_le_mul h1 h2 (absI_nonneg b) (by omega)
    omega
  rw [e]
  generalize (decide (a < 0) != decide (b < 0)) = s
  generalize absI a * absI b = M at *
  cases s
  · rw [if_neg (by simp)]
    unfold sgn hi lo wrap64
    simp; omega
  · rw [if_pos rfl]
    unfold wide_negate.f
    have ho : okW (wrap64 (M / 18446744073709551616)) (M % 18446744073709551616) := by unfold okW okI okU wrap64; omega
    rw [if_pos ho]
    unfold sgn hi lo wrap64 val
    simp; omega

/-! ### the reference's -/
end Go.Proofs.Ytlmabdiodopidaa.G
end
section
set_option linter.unusedVariables false
set_option linter.unusedSimpArgs false
namespace Go.Proofs.Ytlmabdiodopidaa.G
open Go.RowKit Go.Proofs.Ytlmabdiodopidaa.P Go.Proofs.YtlmabdiodopidaaW.PrintWords
/-- a slice's parts are ints -/
def okS (s : S43) : Prop := okI s.f0 ∧ okI s.f1
/-- a slice that is refused -/
def badS (s : S43) : Bool := decide (s.f0 < 0) || (decide (s.f1 < 0) || decide (s.f1 > 1000000))
def sumG (w : Int) : List S43 → Int
  | [] => 0
  | s :: r => s.f0 * s.f1 * w + sumG w r
theorem rd43_mem {l : List S43} {x : Int} (h0 : 0 ≤ x) (h1 : x < l.length) : rd_T43 l x ∈ l := by
  unfold rd_T43
  rw [List.getD_eq_getElem?_getD, List.getElem?_eq_getElem (by omega), Option.getD_some]
  exact List.getElem_mem _
theorem drop43 {l : List S43} {x : Int} (h0 : 0 ≤ x) (h1 : x < l.length) : l.drop x.toNat = rd_T43 l x :: l.drop (x + 1).toNat := by
  unfold rd_T43
  rw [List.getD_eq_getElem?_getD, List.getElem?_eq_getElem (by omega), Option.getD_some, show (x + 1).toNat = x.toNat + 1 by omega]
  exact List.drop_eq_getElem_cons (by omega)
theorem gterm {a b w : Int} (ha : 0 ≤ a) (ha' : a < 9223372036854775808) (hb : 0 ≤ b) (hb' : b ≤ 1000000) (hw : 0 ≤ w ∧ w ≤ 6412320000) : (0 ≤ a * b ∧ a * b ≤ 9223372036854775808000000) ∧ 0 ≤ a * b * w ∧ a * b * w ≤ 59143212979364616009154560000000000 := by
  have h1 := Int.mul_nonneg ha hb
  have h2 : a * b ≤ 9223372036854775808 * 1000000 := Int.mul_le_mul (by omega) hb' hb (by omega)
  have h3 := Int.mul_nonneg h1 hw.1
  have h4 : a * b * w ≤ 9223372036854775808 * 1000000 * 6412320000 := Int.mul_le_mul h2 hw.2 hw.1 (by omega)
  omega
theorem wide_Add_eq {a b c d : Int} (h1 : okW a b) (h2 : okW c d) : wide_Add.f a b c d = some (out (val a b + val c d)) := by
  unfold wide_Add.f
  rw [if_pos ⟨h1, h2⟩]
theorem out_fits {s : Int} (h : fits s) : out s = (hi s, lo s, 0) := by unfold out; rw [if_pos h]
theorem tier_Grains_loop {w : Int} (hw : 0 ≤ w ∧ w ≤ 6412320000) (l : List S43) (hl : l.length ≤ 6) (ok : ∀ s ∈ l, okS s) : ∀ (d k : Nat) (x A : Int), 0 ≤ x → x ≤ l.length → (l.length - x).toNat = d → 2 * d + 1 ≤ k → 0 ≤ A → A ≤ x * 59143212979364616009154560000000000 → tier_Grains.l0 k w l l.length x (hi A) (lo A) = some (if (l.drop x.toNat).any badS = true then (0, 0, 1) else (hi (A + sumG w (l.drop x.toNat)), lo (A + sumG w (l.drop x.toNat)), 0)) := by
  intro d
  induction d with
  | zero =>
    intro k x A h1 h2 hd hk hA hA'
    obtain ⟨k, rfl, _⟩ := step1 hk
    simp only [tier_Grains.l0]
    rw [if_neg (by omega), List.drop_eq_nil_of_le (by omega)]
    simp [sumG]
  | succ d ih =>
    intro k x A h1 h2 hd hk hA hA'
    obtain ⟨k, rfl, hk⟩ := step1 (n := 2 * d + 2) (by omega)
    obtain ⟨k, rfl, hk⟩ := step1 (n := 2 * d + 1) (by omega)
    have hx : x < l.length := by omega
    have hm := ok _ (rd43_mem h1 hx)
    rw [drop43 h1 hx]
    simp only [tier_Grains.l0]
    rw [if_pos hx, if_pos h1, if_pos hx]
    generalize rd_T43 l x = s at hm ⊢
    obtain ⟨o1, o2⟩ := hm
    have o1' := o1
    have o2' := o2
    unfold okI at o1' o2'
    simp only [tier_Grains.j2]
    by_cases b1 : s.f0 < 0
    · simp [b1, badS]
    rw [if_neg b1]
    by_cases b2 : s.f1 < 0
    · simp [b2, badS]
    rw [if_neg b2]
    by_cases b3 : s.f1 > 1000000
    · simp [b3, badS]
    have hb : badS s = false := by simp [badS, b1, b2, b3]
    have hany : (s :: l.drop (x + 1).toNat).any badS = (l.drop (x + 1).toNat).any badS := by rw [List.any_cons, hb, Bool.false_or]
    rw [if_neg (by simpa using b3), hany]
    obtain ⟨⟨g1, g2⟩, g3, g4⟩ := gterm (a := s.f0) (b := s.f1) (by omega) (by omega) (by omega) (by omega) hw
    have f1 : fits (s.f0 * s.f1) := by unfold fits; omega
    have f2 : fits (s.f0 * s.f1 * w) := by unfold fits; omega
    have f0 : fits A := by unfold fits; omega
    have f3 : fits (A + s.f0 * s.f1 * w) := by unfold fits; omega
    rw [wide_Mul_eq o1 o2]
    simp only [Option.bind_some]
    rw [wide_Scale_eq (by omega) (okW_of_fits f1) (by unfold okI; omega), val_hi_lo, out_fits f2]
    simp only [Option.bind_some]
    rw [wide_Add_eq (okW_of_fits f0) (okW_of_fits f2), val_hi_lo, val_hi_lo, out_fits f3]
    simp only [Option.bind_some]
    rw [w64 (by omega) (by omega), ih k (x + 1) _ (by omega) (by omega) (by omega) (by omega) (by omega) (by omega)]
    simp only [sumG, Int.add_assoc]
/-- what Grains gives -/
def grainsB (l : List S43) (w : Int) : Int × Int × Int := if l.length > 6 then (0, 0, 5) else if (w < 0 ∨ w > 6412320000) ∨ l.any badS = true then (0, 0, 1) else (hi (sumG w l), lo (sumG w l), 0)
theorem tier_Grains_eq {k : Nat} {l : List S43} {w : Int} (hk : 30 ≤ k) (ok : ∀ s ∈ l, okS s) : tier_Grains.f k l w = some (grainsB l w) := by
  obtain ⟨k, rfl⟩ : ∃ j, k = j + 1 := ⟨k - 1, by omega⟩
  unfold tier_Grains.f grainsB
  by_cases h6 : l.length > 6
  · rw [if_pos (by omega), if_pos h6]
  rw [if_neg (by omega), if_neg h6]
  simp only [tier_Grains.j0]
  by_cases w1 : w < 0
  · simp [w1]
  rw [if_neg w1]
  by_cases w2 : w > 6412320000
  · simp [w2]
  rw [if_neg (by simpa using w2)]
  have e : tier_Grains.l0 k w l l.length 0 (hi 0) (lo 0) = _ := tier_Grains_loop (w := w) ⟨by omega, by omega⟩ l (by omega) ok (l.length - 0) k 0 0 (by omega) (by omega) (by omega) (by omega) (by omega) (by omega)
  have z1 : hi 0 = 0 := by decide
  have z2 : lo 0 = 0 := by decide
  rw [z1, z2] at e
  rw [e]
  simp only [Int.toNat_zero, List.drop_zero, Int.zero_add, w1, w2, false_or]
end Go.Proofs.Ytlmabdiodopidaa.G
end
section
set_option linter.unusedVariables false
set_option linter.unusedSimpArgs false
namespace Go.Proofs.Ytlmabdiodopidaa.G
open Go.RowKit Go.Proofs.Ytlmabdiodopidaa.P Go.Proofs.YtlmabdiodopidaaW.PrintWords
/-- a book's tier -/
def okT (t : S50) : Prop := 0 ≤ t.f0 ∧ 0 ≤ t.f1 ∧ t.f1 ≤ 1000000
/-- a part -/
def okP (n : Int) (s : S43) : Prop := 1 ≤ s.f0 ∧ s.f0 ≤ n ∧ 0 ≤ s.f1 ∧ s.f1 ≤ 1000000
theorem partsL_ok (n : Int) : ∀ l : List S50, (∀ t ∈ l, okT t) → ∀ s ∈ partsL n l, okP n s
  | [], _ => by simp [partsL]
  | [t], h => by
    have ht := h t (by simp)
    unfold okT at ht
    unfold partsL
    split
    · intro s hs
      simp only [List.mem_singleton] at hs
      subst hs
      unfold okP
      simp only
      omega
    · simp
  | t :: u :: r, h => by
    have ht := h t (by simp)
    have ih := partsL_ok n (u :: r) fun x hx => h x (by simp at hx ⊢; exact .inr hx)
    have hm := mn_le n u.f0
    unfold okT at ht
    unfold partsL
    intro s hs
    rw [List.mem_append] at hs
    rcases hs with hs | hs
    · split at hs
      · simp only [List.mem_singleton] at hs
        subst hs
        unfold okP
        simp only
        omega
      · simp at hs
    · exact ih s hs
theorem good_ok {l : List S50} (g : Good l) : ∀ t ∈ l, okT t := fun t ht => by
  have := g.ok t ht
  unfold okT
  omega
theorem rateL_ok {s : Int} : ∀ (l : List S50) (a : Int), (∀ t ∈ l, okT t) → 0 ≤ a → a ≤ 1000000 → 0 ≤ rateL s l a ∧ rateL s l a ≤ 1000000
  | [], a, _, h1, h2 => ⟨h1, h2⟩
  | t :: l, a, h, h1, h2 => by
    have ht := h t (by simp)
    unfold okT at ht
    unfold rateL
    exact rateL_ok l _ (fun x hx => h x (by simp [hx])) (by split <;> omega) (by split <;> omega)
theorem slicesB_ok {l : List S50} {m : Bool} {b : Int} (hb : okI b) : ∀ s ∈ slicesB l m b, okP (szB b) s := by
  have hz := szB_ok hb
  unfold slicesB
  split
  · simp
  · rename_i h
    have hc : checkT l = 0 := Decidable.byContradiction fun hc => h (.inl hc)
    have g := good_ok (good_of hc)
    split
    · exact partsL_ok _ l g
    · intro s hs
      simp only [List.mem_singleton] at hs
      subst hs
      have hn : szB b ≠ 0 := fun e => h (.inr (.inr e))
      have := rateL_ok (s := szB b) l 0 g (by omega) (by omega)
      unfold okP rateB
      rw [if_pos hc]
      simp only
      omega
theorem okP_S {n : Int} (hn : n ≤ 9223372036854775807) {s : S43} (h : okP n s) : okS s := by unfold okP at h; unfold okS okI; omega
end Go.Proofs.Ytlmabdiodopidaa.G
end
section
set_option linter.unusedVariables false
set_option linter.unusedSimpArgs false
namespace Go.Proofs.Ytlmabdiodopidaa.G
open Go.RowKit Go.Proofs.Ytlmabdiodopidaa.P Go.Proofs.YtlmabdiodopidaaW.PrintWords

theorem ref_size_eq {n : Int} (h : okI n) : corebankref01_size.f n = some (absI n) := by
  unfold okI at h
  unfold corebankref01_size.f absI
  split
  · rw [not64_eq (by simp only [IntKind.wrap_u64]; unfold okU; omega)]
    simp only [IntKind.wrap_u64, Option.some.injEq]; omega
  · simp only [IntKind.wrap_u64, Option.some.injEq]; omega
theorem ref_Split_eq {a b : Int} (h : okW a b) : corebankref01_Split.f a b = some (decide (val a b < 0), hi (absI (val a b)), lo (absI (val a b))) := by
  have hs := val_neg_iff h
  obtain ⟨⟨h1, h2⟩, h3, h4⟩ := h
  have n1 := not64_eq ⟨h3, h4⟩
  unfold corebankref01_Split.f
  rw [n1]
  by_cases ha : a ≥ 0
  · rw [if_pos ha]
    have : ¬ val a b < 0 := fun h => by have := hs.2 h; omega
    unfold absI
    rw [if_neg this]
    simp only [this, decide_false, Option.some.injEq, Prod.mk.injEq, IntKind.wrap_u64, true_and]
    unfold hi lo val
    omega
  · rw [if_neg ha]
    have hv : val a b < 0 := hs.1 (by omega)
    have n2 : not64 (IntKind.u64.wrap a) = -1 - a := by
      rw [not64_eq (by simp only [IntKind.wrap_u64]; unfold okU; omega)]
      simp only [IntKind.wrap_u64]; omega
    rw [n2]
    unfold absI
    rw [if_pos hv]
    simp only [hv, decide_true, IntKind.wrap_u64]
    unfold hi lo
    unfold val at hv ⊢
    split <;> simp only [Option.some.injEq, Prod.mk.injEq, true_and] <;> omega
theorem ref_Join_eq {a b : Int} {m : Bool} (h1 : okU a) (h2 : okU b) : ∃ x y, corebankref01_Join.f m a b = some (x, y, decide (fits (sgn m (val a b)))) ∧ (fits (sgn m (val a b)) → x = hi (sgn m (val a b)) ∧ y = lo (sgn m (val a b))) := by
  have n1 := not64_eq h1
  have n2 := not64_eq h2
  unfold okU at h1 h2
  unfold corebankref01_Join.f
  rw [n1, n2]
  cases m
  · refine ⟨_, _, by rw [if_neg (by simp)]; rw [show decide (a < 9223372036854775808) = decide (fits (sgn false (val a b))) by rw [decide_eq_decide]; unfold fits sgn val; simp; omega], ?_⟩
    intro hf
    unfold fits sgn val at hf
    unfold sgn hi lo wrap64 val
    simp at hf ⊢
    omega
  · rw [if_pos rfl]
    have key : ∀ x y : Int, ∀ c : Bool, (c = true ↔ fits (sgn true (val a b))) → (fits (sgn true (val a b)) → x = hi (sgn true (val a b)) ∧ y = lo (sgn true (val a b))) → ∃ x' y', some (x, y, c) = some (x', y', decide (fits (sgn true (val a b)))) ∧ (fits (sgn true (val a b)) → x' = hi (sgn true (val a b)) ∧ y' = lo (sgn true (val a b))) := by
      intro x y c hc hxy
      refine ⟨x, y, ?_, hxy⟩
      have : c = decide (fits (sgn true (val a b))) := by rw [Bool.eq_iff_iff, hc]; simp
      rw [this]
    have hfi : fits (sgn true (val a b)) ↔ (a < 9223372036854775808 ∨ a = 9223372036854775808 ∧ b = 0) := by unfold fits sgn val; simp; omega
    have ehi : hi (sgn true (val a b)) = if b = 0 then -a else -1 - a := by unfold hi sgn val; simp; split <;> omega
    have elo : lo (sgn true (val a b)) = if b = 0 then 0 else 18446744073709551616 - b := by unfold lo sgn val; simp; split <;> omega
    simp only [IntKind.wrap_u64]
    repeat' split
    all_goals
      refine key _ _ _ (by rw [hfi]; simp; try omega) (fun hf => ?_)
      rw [hfi] at hf
      rw [ehi, elo]
      unfold wrap64
      split <;> omega
theorem ref_Less_eq {a b c d : Int} (h1 : okU b) (h2 : okU d) : corebankref01_Less.f a b c d = some (decide (val a b < val c d)) := by
  unfold okU at h1 h2
  unfold corebankref01_Less.f val
  split
  · simp; omega
  · split <;> simp <;> omega
theorem ref_minus_eq {a b c d : Int} (h1 : okU a) (h2 : okU b) (h3 : okU c) (h4 : okU d) (h : val c d ≤ val a b) : corebankref01_minus.f a b c d = some (hi (val a b - val c d), lo (val a b - val c d)) := by
  unfold okU at h1 h2 h3 h4
  unfold val at h
  unfold corebankref01_minus.f hi lo val
  simp only [IntKind.wrap_u64]
  split <;> simp only [Option.some.injEq, Prod.mk.injEq] <;> omega
theorem sgn_fits_out {s : Int} {x y : Int} (h : fits s → x = hi s ∧ y = lo s) : (if decide (fits s) = true then some (x, y, (0 : Int)) else some (0, 0, 6)) = some (out s) := by
  unfold out
  by_cases hf : fits s
  · obtain ⟨rfl, rfl⟩ := h hf
    rw [if_pos (by simpa using hf), if_pos hf]
  · rw [if_neg (by simpa using hf), if_neg hf]
theorem ref_sum_eq {a b c d : Int} {m n : Bool} (h1 : okU a) (h2 : okU b) (h3 : okU c) (h4 : okU d) : corebankref01_sum.f m a b n c d = some (out (sgn m (val a b) + sgn n (val c d))) := by
  have p1 : 0 ≤ val a b := by unfold okU at h1 h2; unfold val; omega
  have p2 : 0 ≤ val c d := by unfold okU at h3 h4; unfold val; omega
  have q1 : val a b < 340282366920938463463374607431768211456 := by unfold okU at h1 h2; unfold val; omega
  have q2 : val c d < 340282366920938463463374607431768211456 := by unfold okU at h3 h4; unfold val; omega
  have okp : ∀ s : Int, okU (lo s) := fun s => by unfold okU lo; omega
  have okq : ∀ s : Int, 0 ≤ s → s < 340282366920938463463374607431768211456 → okU (hi s) := fun s h1 h2 => by unfold okU hi; omega
  unfold corebankref01_sum.f
  by_cases hmn : m = n
  · subst hmn
    rw [if_pos (by simp)]
    unfold corebankref01_plus.f
    rw [if_pos ⟨h1, h2, h3, h4⟩]
    simp only [Option.bind_some]
    have e : sgn m (val a b) + sgn m (val c d) = sgn m (val a b + val c d) := by unfold sgn; split <;> omega
    rw [e]
    have p3 : 0 ≤ val a b + val c d := by omega
    generalize val a b + val c d = s at *
    by_cases hs : s < 340282366920938463463374607431768211456
    · obtain ⟨x, y, hj, hxy⟩ := ref_Join_eq (m := m) (show okU (hi s % 18446744073709551616) by unfold okU; omega) (okp s)
      have e2 : val (hi s % 18446744073709551616) (lo s) = s := by
        rw [show hi s % 18446744073709551616 = hi s by unfold hi; omega]; exact val_hi_lo s
      rw [e2] at hj hxy
      rw [hj]
      simp only [Option.bind_some, hs, decide_true, if_true]
      exact sgn_fits_out hxy
    · obtain ⟨x, y, hj, _⟩ := ref_Join_eq (m := m) (show okU (hi s % 18446744073709551616) by unfold okU; omega) (okp s)
      rw [hj]
      simp only [Option.bind_some, hs, decide_false]
      unfold out
      rw [if_neg (by simp), if_neg]
      unfold fits sgn
      split <;> omega
  · rw [if_neg (by simpa using hmn)]
    rw [ref_Less_eq h2 h4]
    simp only [Option.bind_some]
    have hn : n = !m := by cases m <;> cases n <;> simp_all
    by_cases hl : val a b < val c d
    · rw [if_pos (by simpa using hl), ref_minus_eq h3 h4 h1 h2 (by omega)]
      simp only [Option.bind_some]
      obtain ⟨x, y, hj, hxy⟩ := ref_Join_eq (m := n) (okq (val c d - val a b) (by omega) (by omega)) (okp _)
      rw [val_hi_lo] at hj hxy
      rw [hj]
      simp only [Option.bind_some]
      have e : sgn m (val a b) + sgn n (val c d) = sgn n (val c d - val a b) := by subst hn; unfold sgn; cases m <;> simp <;> omega
      rw [e]
      exact sgn_fits_out hxy
    · rw [if_neg (by simpa using hl), ref_minus_eq h1 h2 h3 h4 (by omega)]
      simp only [Option.bind_some]
      obtain ⟨x, y, hj, hxy⟩ := ref_Join_eq (m := m) (okq (val a b - val c d) (by omega) (by omega)) (okp _)
      rw [val_hi_lo] at hj hxy
      rw [hj]
      simp only [Option.bind_some]
      have e : sgn m (val a b) + sgn n (val c d) = sgn m (val a b - val c d) := by subst hn; unfold sgn; cases m <;> simp <;> omega
      rw [e]
      exact sgn_fits_out hxy
theorem sgn_absI (s : Int) : sgn (decide (s < 0)) (absI s) = s := by
  unfold sgn absI
  by_cases h : s < 0 <;> simp [h]
theorem ref_Add_eq {a b c d : Int} (h1 : okW a b) (h2 : okW c d) : corebankref01_Add.f a b c d = some (out (val a b + val c d)) := by
  unfold corebankref01_Add.f
  rw [ref_Split_eq h1, ref_Split_eq h2]
  simp only [Option.bind_some]
  obtain ⟨m1, m2⟩ := mag_ok h1
  obtain ⟨m3, m4⟩ := mag_ok h2
  rw [ref_sum_eq m1 m2 m3 m4, val_hi_lo, val_hi_lo, sgn_absI, sgn_absI]
  rfl
end Go.Proofs.Ytlmabdiodopidaa.G
end
section
set_option linter.unusedVariables false
set_option linter.unusedSimpArgs false
namespace Go.Proofs.Ytlmabdiodopidaa.G
open Go.RowKit Go.Proofs.Ytlmabdiodopidaa.P Go.Proofs.YtlmabdiodopidaaW.PrintWords

theorem ref_Of_eq {n : Int} (h : okI n) : corebankref01_Of.f n = some (hi n, lo n) := by
  unfold okI at h
  unfold corebankref01_Of.f hi lo
  simp only [IntKind.wrap_u64]
  split <;> simp only [Option.some.injEq, Prod.mk.injEq, and_true] <;> omega

theorem top_bit {x : Int} (h : okU x) : (Go.bits .and .u64 x 9223372036854775808 = 0) ↔ x < 9223372036854775808 := by
  obtain ⟨h0, h1⟩ := h
  obtain ⟨n, rfl⟩ := Int.eq_ofNat_of_zero_le h0
  have hn : n < 18446744073709551616 := by omega
  have e := u64_and_nat n 9223372036854775808 hn (by decide)
  have e2 : (n &&& 9223372036854775808 = 0) ↔ n.testBit 63 = false := by
    constructor
    · intro h
      have h2 : Nat.testBit (n &&& 9223372036854775808) 63 = Nat.testBit 0 63 := by rw [h]
      rw [Nat.testBit_and, show (9223372036854775808 : Nat) = 2 ^ 63 from rfl, Nat.testBit_two_pow] at h2
      simpa using h2
    · intro h
      refine Nat.eq_of_testBit_eq fun i => ?_
      rw [Nat.testBit_and, show (9223372036854775808 : Nat) = 2 ^ 63 from rfl, Nat.testBit_two_pow]
      by_cases hi : 63 = i
      · subst hi; simp [h]
      · simp [hi]
  have e3 : n.testBit 63 = decide (n / 2 ^ 63 % 2 = 1) := Nat.testBit_eq_decide_div_mod_eq
  rw [show ((9223372036854775808 : Int)) = ((9223372036854775808 : Nat) : Int) from rfl, e]
  rw [show (((n &&& 9223372036854775808 : Nat) : Int) = 0) ↔ (n &&& 9223372036854775808 = 0) by omega, e2, e3]
  simp
  omega

/-- the product, bit by bit: what is still to come -/
def dbl (M : Int) : Nat → Int → Int → Int
  | 0, R, _ => R
  | j + 1, R, n => dbl M j (2 * R + (if n < 9223372036854775808 then 0 else M)) (2 * n % 18446744073709551616)
theorem dbl_eq (M : Int) : ∀ (j : Nat) (R n : Int), j ≤ 64 → 0 ≤ n → n < 18446744073709551616 → dbl M j R n = R * 2 ^ j + M * (n / 2 ^ (64 - j))
  | 0, R, n, _, h0, h1 => by
    simp only [dbl, Nat.sub_zero, Int.pow_zero, Int.mul_one]
    rw [show n / 2 ^ 64 = 0 by omega, Int.mul_zero, Int.add_zero]
  | j + 1, R, n, hj, h0, h1 => by
    simp only [dbl]
    rw [dbl_eq M j _ _ (by omega) (by omega) (by omega)]
    have key : n / 2 ^ (64 - (j + 1)) = (if n < 9223372036854775808 then 0 else 1) * 2 ^ j + (2 * n % 18446744073709551616) / 2 ^ (64 - j) := by
      have e : (2 : Int) ^ (64 - j) = 2 * 2 ^ (64 - (j + 1)) := by
        rw [show 64 - j = (64 - (j + 1)) + 1 by omega, Int.pow_succ, Int.mul_comm]
      have e2 : (9223372036854775808 : Int) = 2 ^ j * 2 ^ (64 - (j + 1)) := by
        rw [← Int.pow_add, show j + (64 - (j + 1)) = 63 by omega]; rfl
      have hp : (0 : Int) < 2 ^ (64 - (j + 1)) := Int.pow_pos (by decide)
      rw [e, ← Int.ediv_ediv_of_nonneg (by decide)]
      generalize (2 : Int) ^ (64 - (j + 1)) = q at *
      generalize (2 : Int) ^ j = r at *
      split
      · rw [show 2 * n % 18446744073709551616 / 2 = n by omega]; omega
      · rw [show 2 * n % 18446744073709551616 / 2 = n - 9223372036854775808 by omega, e2]
        rw [Int.one_mul, Int.sub_ediv_of_dvd _ (Int.dvd_mul_left r q), Int.mul_ediv_cancel _ (by omega)]
        omega
    rw [key, Int.pow_succ]
    generalize (2 : Int) ^ j = r
    generalize (2 * n % 18446744073709551616) / 2 ^ (64 - j) = y
    split <;> grind
theorem dbl_all (M n : Int) (h0 : 0 ≤ n) (h1 : n < 18446744073709551616) : dbl M 64 0 n = M * n := by
  rw [dbl_eq M 64 0 n (by omega) h0 h1]
  simp

theorem pair_val {a b : Int} {s : Int} (h1 : a = hi s % 18446744073709551616) (h2 : b = lo s) : val a b = s % 340282366920938463463374607431768211456 := by
  subst h1 h2; unfold val hi lo; omega
theorem ref_plus_eq {a b c d : Int} (h1 : okU a) (h2 : okU b) (h3 : okU c) (h4 : okU d) : corebankref01_plus.f a b c d = some (hi (val a b + val c d) % 18446744073709551616, lo (val a b + val c d), decide (val a b + val c d < 340282366920938463463374607431768211456)) := by
  unfold corebankref01_plus.f
  rw [if_pos ⟨h1, h2, h3, h4⟩]
theorem ref_times_loop (m0 m1 M : Int) (hm : okU m0 ∧ okU m1) (hM : val m0 m1 = M) : ∀ (j k : Nat) (R n o0 o1 : Int), j ≤ 64 → j < k → 0 ≤ R → okU n → okU o0 → okU o1 → val o0 o1 = R % 340282366920938463463374607431768211456 →
    ∃ x y : Int, corebankref01_times.l0 k n (decide (R < 340282366920938463463374607431768211456)) (64 - (j : Int)) m0 m1 o0 o1 = some (x, y, decide (dbl M j R n < 340282366920938463463374607431768211456)) ∧ okU x ∧ okU y ∧ val x y = dbl M j R n % 340282366920938463463374607431768211456
  | 0, k, R, n, o0, o1, _, hk, hR, hn, h1, h2, hv => by
    obtain ⟨k, rfl⟩ : ∃ m, k = m + 1 := ⟨k - 1, by omega⟩
    refine ⟨o0, o1, ?_, h1, h2, hv⟩
    simp only [corebankref01_times.l0]
    rw [if_neg (by omega)]
    rfl
  | j + 1, k, R, n, o0, o1, hj, hk, hR, hn, h1, h2, hv => by
    obtain ⟨k, rfl⟩ : ∃ m, k = m + 1 := ⟨k - 1, by omega⟩
    have hM0 : 0 ≤ M ∧ M < 340282366920938463463374607431768211456 := by obtain ⟨⟨a, b⟩, c, d⟩ := hm; unfold val at hM; omega
    have ov : 0 ≤ val o0 o1 ∧ val o0 o1 < 340282366920938463463374607431768211456 := by unfold okU at h1 h2; unfold val; omega
    have hn' : okU (IntKind.u64.wrap (n * 2)) := by rw [IntKind.wrap_u64]; unfold okU; omega
    have en : IntKind.u64.wrap (n * 2) = 2 * n % 18446744073709551616 := by rw [IntKind.wrap_u64, Int.mul_comm]
    have eb : wrap64 (64 - ((j + 1 : Nat) : Int) + 1) = 64 - (j : Int) := by unfold wrap64; omega
    have hF : dbl M (j + 1) R n = dbl M j (2 * R + (if n < 9223372036854775808 then 0 else M)) (IntKind.u64.wrap (n * 2)) := by rw [en]; rfl
    rw [hF]
    clear hF
    simp only [corebankref01_times.l0]
    rw [if_pos (by omega), ref_plus_eq h1 h2 h1 h2]
    simp only [Option.bind_some]
    have ku : okU (hi (val o0 o1 + val o0 o1) % 18446744073709551616) := by unfold okU; omega
    have kl : okU (lo (val o0 o1 + val o0 o1)) := by unfold okU lo; omega
    have kv := pair_val (s := val o0 o1 + val o0 o1) rfl rfl
    rw [ref_plus_eq ku kl hm.1 hm.2, hM]
    rw [kv, eb]
    simp only [Option.bind_some]
    have ku2 : ∀ s : Int, okU (hi s % 18446744073709551616) := fun s => by unfold okU; omega
    have kl2 : ∀ s : Int, okU (lo s) := fun s => by unfold okU lo; omega
    have tb := top_bit hn
    rw [hv]
    by_cases hb : n < 9223372036854775808
    · have ih := ref_times_loop m0 m1 M hm hM j k (2 * R) (IntKind.u64.wrap (n * 2)) (hi (R % 340282366920938463463374607431768211456 + R % 340282366920938463463374607431768211456) % 18446744073709551616) (lo (R % 340282366920938463463374607431768211456 + R % 340282366920938463463374607431768211456)) (by omega) (by omega) (by omega) hn' (ku2 _) (kl2 _) (by rw [pair_val rfl rfl]; omega)
      simp only [tb.2 hb, if_true, hb, Int.add_zero]
      by_cases hr : R < 340282366920938463463374607431768211456
      · simp only [hr, decide_true, if_true]
        rw [show decide (R % 340282366920938463463374607431768211456 + R % 340282366920938463463374607431768211456 < 340282366920938463463374607431768211456) = decide (2 * R < 340282366920938463463374607431768211456) by rw [decide_eq_decide]; omega]
        exact ih
      · simp only [hr, decide_false, Bool.false_eq_true, if_false]
        rw [show false = decide (2 * R < 340282366920938463463374607431768211456) by symm; rw [decide_eq_false_iff_not]; omega]
        exact ih
    · have ih := ref_times_loop m0 m1 M hm hM j k (2 * R + M) (IntKind.u64.wrap (n * 2)) (hi ((R % 340282366920938463463374607431768211456 + R % 340282366920938463463374607431768211456) % 340282366920938463463374607431768211456 + M) % 18446744073709551616) (lo ((R % 340282366920938463463374607431768211456 + R % 340282366920938463463374607431768211456) % 340282366920938463463374607431768211456 + M)) (by omega) (by omega) (by omega) hn' (ku2 _) (kl2 _) (by rw [pair_val rfl rfl]; omega)
      have tb' : ¬ (Go.bits .and .u64 n 9223372036854775808 = 0) := fun h => hb (tb.1 h)
      simp only [tb', if_false, hb]
      by_cases hr : R < 340282366920938463463374607431768211456
      · simp only [hr, decide_true, if_true]
        by_cases h2 : R % 340282366920938463463374607431768211456 + R % 340282366920938463463374607431768211456 < 340282366920938463463374607431768211456
        · simp only [h2, decide_true, if_true]
          rw [show decide ((R % 340282366920938463463374607431768211456 + R % 340282366920938463463374607431768211456) % 340282366920938463463374607431768211456 + M < 340282366920938463463374607431768211456) = decide (2 * R + M < 340282366920938463463374607431768211456) by rw [decide_eq_decide]; omega]
          exact ih
        · simp only [h2, decide_false, Bool.false_eq_true, if_false]
          rw [show false = decide (2 * R + M < 340282366920938463463374607431768211456) by symm; rw [decide_eq_false_iff_not]; omega]
          exact ih
      · simp only [hr, decide_false, Bool.false_eq_true, if_false]
        rw [show false = decide (2 * R + M < 340282366920938463463374607431768211456) by symm; rw [decide_eq_false_iff_not]; omega]
        exact ih
theorem ref_times_eq {k : Nat} {a b n : Int} (hk : 64 < k) (h1 : okU a) (h2 : okU b) (h3 : okU n) : ∃ x y : Int, corebankref01_times.f k a b n = some (x, y, decide (val a b * n < 340282366920938463463374607431768211456)) ∧ okU x ∧ okU y ∧ val x y = val a b * n % 340282366920938463463374607431768211456 := by
  obtain ⟨x, y, e, r⟩ := ref_times_loop a b (val a b) ⟨h1, h2⟩ rfl 64 k 0 n 0 0 (by omega) hk (by omega) h3 (by unfold okU; omega) (by unfold okU; omega) (by unfold val; omega)
  rw [dbl_all _ _ h3.1 h3.2] at e r
  exact ⟨x, y, e, r⟩
theorem ref_Scale_eq {k : Nat} {a b n : Int} (hk : 64 < k) (h : okW a b) (hn : okI n) : corebankref01_Scale.f k a b n = some (out (val a b * n)) := by
  unfold corebankref01_Scale.f
  rw [ref_Split_eq h, ref_size_eq hn]
  simp only [Option.bind_some]
  obtain ⟨m1, m2⟩ := mag_ok h
  obtain ⟨x, y, e, ox, oy, exy⟩ := ref_times_eq hk m1 m2 (absI_okU hn)
  rw [val_hi_lo] at e exy
  rw [e]
  simp only [Option.bind_some]
  obtain ⟨u, v, hj, huv⟩ := ref_Join_eq (m := decide (val a b < 0) != decide (n < 0)) ox oy
  rw [hj]
  simp only [Option.bind_some]
  have es := sgn_mul (val a b) n
  have z := Int.mul_nonneg (absI_nonneg (val a b)) (absI_nonneg n)
  rw [es]
  generalize (decide (val a b < 0) != decide (n < 0)) = s at *
  generalize absI (val a b) * absI n = M at *
  by_cases hM : M < 340282366920938463463374607431768211456
  · rw [if_pos (by simpa using hM)]
    rw [show val x y = M by omega] at huv ⊢
    exact sgn_fits_out huv
  · rw [if_neg (by simpa using hM)]
    unfold out
    rw [if_neg (fun hf => hM (fits_small s z hf))]
theorem okW_val {n : Int} (h : okI n) : okW (hi n) (lo n) := okW_of_fits (by unfold okI at h; unfold fits; omega)
theorem ref_Mul_eq {k : Nat} {a b : Int} (hk : 64 < k) (ha : okI a) (hb : okI b) : corebankref01_Mul.f k a b = some (hi (a * b), lo (a * b)) := by
  unfold corebankref01_Mul.f
  rw [ref_Of_eq ha]
  simp only [Option.bind_some]
  rw [ref_Scale_eq hk (okW_val ha) hb, val_hi_lo]
  unfold out
  rw [if_pos (fits_mul ha hb)]
  rfl
end Go.Proofs.Ytlmabdiodopidaa.G
end
section
set_option linter.unusedVariables false
set_option linter.unusedSimpArgs false
namespace Go.Proofs.Ytlmabdiodopidaa.G
open Go.RowKit Go.Proofs.Ytlmabdiodopidaa.P Go.Proofs.YtlmabdiodopidaaW.PrintWords
theorem ref_Grains_sum {w : Int} (hw : 0 ≤ w ∧ w ≤ 6412320000) (l : List S43) (hl : l.length ≤ 6) (ok : ∀ s ∈ l, okS s ∧ badS s = false) : ∀ (d k : Nat) (x A : Int), 0 ≤ x → x ≤ l.length → (l.length - x).toNat = d → d + 70 ≤ k → 0 ≤ A → A ≤ x * 59143212979364616009154560000000000 → corebankref14_Grains.l1 k l w x (hi A) (lo A) = some (hi (A + sumG w (l.drop x.toNat)), lo (A + sumG w (l.drop x.toNat)), 0) := by
  intro d
  induction d with
  | zero =>
    intro k x A h1 h2 hd hk hA hA'
    obtain ⟨k, rfl, _⟩ := step1 (n := 69) (by omega)
    simp only [corebankref14_Grains.l1]
    rw [if_neg (by omega), List.drop_eq_nil_of_le (by omega)]
    simp [sumG]
  | succ d ih =>
    intro k x A h1 h2 hd hk hA hA'
    obtain ⟨k, rfl, hk⟩ := step1 (n := d + 70) (by omega)
    have hx : x < l.length := by omega
    have hm := ok _ (rd43_mem h1 hx)
    rw [drop43 h1 hx]
    simp only [corebankref14_Grains.l1]
    rw [if_pos hx, if_pos h1]
    generalize rd_T43 l x = s at hm ⊢
    obtain ⟨⟨o1, o2⟩, o3⟩ := hm
    have o1' := o1
    have o2' := o2
    unfold okI at o1' o2'
    unfold badS at o3
    simp at o3
    obtain ⟨⟨g1, g2⟩, g3, g4⟩ := gterm (a := s.f0) (b := s.f1) (by omega) (by omega) (by omega) (by omega) hw
    have f1 : fits (s.f0 * s.f1) := by unfold fits; omega
    have f2 : fits (s.f0 * s.f1 * w) := by unfold fits; omega
    have f0 : fits A := by unfold fits; omega
    have f3 : fits (A + s.f0 * s.f1 * w) := by unfold fits; omega
    rw [ref_Mul_eq (by omega) o1 o2]
    simp only [Option.bind_some]
    rw [ref_Scale_eq (by omega) (okW_of_fits f1) (by unfold okI; omega), val_hi_lo, out_fits f2]
    simp only [Option.bind_some]
    rw [ref_Add_eq (okW_of_fits f0) (okW_of_fits f2), val_hi_lo, val_hi_lo, out_fits f3]
    simp only [Option.bind_some]
    rw [w64 (by omega) (by omega), ih k (x + 1) _ (by omega) (by omega) (by omega) (by omega) (by omega) (by omega)]
    simp only [sumG, Int.add_assoc]
theorem ref_Grains_all {w : Int} (l : List S43) (hl : l.length ≤ 6) (ok : ∀ s ∈ l, okS s) : ∀ (d k : Nat) (x : Int), 0 ≤ x → x ≤ l.length → (l.length - x).toNat = d → d + 90 ≤ k → (∀ i : Int, 0 ≤ i → i < x → badS (rd_T43 l i) = false) → corebankref14_Grains.l0 k l w x = some (if (w < 0 ∨ w > 6412320000) ∨ (l.drop x.toNat).any badS = true then (0, 0, 1) else (hi (sumG w l), lo (sumG w l), 0)) := by
  intro d
  induction d with
  | zero =>
    intro k x h1 h2 hd hk hs
    obtain ⟨k, rfl, _⟩ := step1 (n := 89) (by omega)
    obtain ⟨k, rfl, _⟩ := step1 (k := k) (n := 88) (by omega)
    simp only [corebankref14_Grains.l0, corebankref14_Grains.j1]
    rw [if_neg (by omega), List.drop_eq_nil_of_le (by omega)]
    by_cases w1 : w < 0
    · simp [w1]
    rw [if_neg w1]
    by_cases w2 : w > 6412320000
    · simp [w2]
    rw [if_neg (by simpa using w2)]
    have all : ∀ s ∈ l, okS s ∧ badS s = false := fun s h => by
      refine ⟨ok s h, ?_⟩
      obtain ⟨i, hi, rfl⟩ := List.mem_iff_getElem.1 h
      have := hs i (by omega) (by omega)
      unfold rd_T43 at this
      rw [List.getD_eq_getElem?_getD, Int.toNat_natCast, List.getElem?_eq_getElem hi, Option.getD_some] at this
      exact this
    have e : corebankref14_Grains.l1 k l w 0 (hi 0) (lo 0) = _ := ref_Grains_sum (w := w) ⟨by omega, by omega⟩ l hl all (l.length - 0) k 0 0 (by omega) (by omega) (by omega) (by omega) (by omega) (by omega)
    have z1 : hi 0 = 0 := by decide
    have z2 : lo 0 = 0 := by decide
    rw [z1, z2] at e
    rw [e]
    simp [w1, w2]
  | succ d ih =>
    intro k x h1 h2 hd hk hs
    obtain ⟨k, rfl, hk⟩ := step1 (n := d + 90) (by omega)
    have hx : x < l.length := by omega
    simp only [corebankref14_Grains.l0]
    rw [if_pos hx, if_pos h1, drop43 h1 hx]
    by_cases b1 : (rd_T43 l x).f0 < 0
    · simp [b1, badS]
    rw [if_neg b1]
    by_cases b2 : (rd_T43 l x).f1 < 0
    · simp [b2, badS]
    rw [if_neg b2]
    by_cases b3 : (rd_T43 l x).f1 > 1000000
    · simp [b3, badS]
    have hb : badS (rd_T43 l x) = false := by simp [badS, b1, b2, b3]
    have hany : (rd_T43 l x :: l.drop (x + 1).toNat).any badS = (l.drop (x + 1).toNat).any badS := by rw [List.any_cons, hb, Bool.false_or]
    rw [if_neg b3, hany, w64 (by omega) (by omega)]
    refine ih k (x + 1) (by omega) (by omega) (by omega) (by omega) fun i h3 h4 => ?_
    by_cases he : i = x
    · rw [he]; exact hb
    · exact hs i h3 (by omega)
theorem ref_Grains_eq {k : Nat} {l : List S43} {w : Int} (hk : 100 ≤ k) (ok : ∀ s ∈ l, okS s) : corebankref14_Grains.f k l w = some (grainsB l w) := by
  unfold corebankref14_Grains.f grainsB
  by_cases h6 : l.length > 6
  · rw [if_pos (by omega), if_pos h6]
  rw [if_neg (by omega), if_neg h6, ref_Grains_all l (by omega) ok (l.length - 0) k 0 (by omega) (by omega) (by omega) (by omega) (fun i h1 h2 => by omega)]
  simp only [Int.toNat_zero, List.drop_zero]
end Go.Proofs.Ytlmabdiodopidaa.G
end
section
set_option linter.unusedVariables false
set_option linter.unusedSimpArgs false
namespace Go.Proofs.Ytlmabdiodopidaa.G
open Go.RowKit Go.Proofs.Ytlmabdiodopidaa.P Go.Proofs.YtlmabdiodopidaaW.PrintWords
theorem grainsB_gz (l : List S43) (w : Int) : gz (grainsB l w).2.2 (grainsB l w).1 = (grainsB l w).1 ∧ gz (grainsB l w).2.2 (grainsB l w).2.1 = (grainsB l w).2.1 := by
  unfold grainsB gz
  split
  · exact ⟨rfl, rfl⟩
  · split <;> exact ⟨rfl, rfl⟩
theorem gr_both (x : Intr) {bal day : Int} (hb : okI bal) (hv : vd day = true) : ∃ wt, GrIs x bal day (grainsB (slicesB x.tiers x.marg bal) wt).1 (grainsB (slicesB x.tiers x.marg bal) wt).2.1 ∧ RGrIs x bal day (grainsB (slicesB x.tiers x.marg bal) wt).1 (grainsB (slicesB x.tiers x.marg bal) wt).2.1 := by
  obtain ⟨wt, hw⟩ := weight_both x.basis hv
  have ok : ∀ s ∈ slicesB x.tiers x.marg bal, okS s := fun s hs => okP_S (szB_ok hb).2 (slicesB_ok hb s hs)
  have z := grainsB_gz (slicesB x.tiers x.marg bal) wt
  exact ⟨wt, ⟨400, slicesB x.tiers x.marg bal, wt, (grainsB (slicesB x.tiers x.marg bal) wt).1, (grainsB (slicesB x.tiers x.marg bal) wt).2.1, (grainsB (slicesB x.tiers x.marg bal) wt).2.2, tier_Slices_eq (by omega) hb, (hw 400 (by omega)).1, tier_Grains_eq (by omega) ok, z.1.symm, z.2.symm⟩, ⟨400, slicesB x.tiers x.marg bal, wt, (grainsB (slicesB x.tiers x.marg bal) wt).2.2, ref_Slices_eq (by omega) hb, (hw 400 (by omega)).2, ref_Grains_eq (by omega) ok⟩⟩
theorem dayIs_both (b : Bk) (id : Int) {day : Int} (hv : vd day = true) : ∃ bal chi clo dhi dlo, DayIs b id day bal chi clo dhi dlo ∧ RDayIs b id day bal chi clo dhi dlo := by
  unfold DayIs RDayIs SideIs
  cases ha : activeA b.accs id day
  · exact ⟨0, 0, 0, 0, 0, .inl ⟨rfl, rfl, rfl, rfl, rfl, rfl⟩, .inl ⟨rfl, rfl, rfl, rfl, rfl, rfl⟩⟩
  have hb := atF_ok id 73048 day b.jour
  have e := (atF_atR id 73048 day b.jour).symm
  cases hp : (prodA b id day).2
  · exact ⟨_, 0, 0, 0, 0, .inr ⟨rfl, rfl, .inl ⟨rfl, rfl, rfl, rfl, rfl⟩⟩, .inr ⟨rfl, e, .inl ⟨rfl, rfl, rfl, rfl, rfl⟩⟩⟩
  obtain ⟨wt, g, r⟩ := gr_both (sideP (prodA b id day).1 (atF 73048 day (mvs id b.jour))) hb hv
  rcases Int.lt_trichotomy (atF 73048 day (mvs id b.jour)) 0 with h | h | h
  · exact ⟨_, 0, 0, _, _, .inr ⟨rfl, rfl, .inr ⟨rfl, .inr (.inl ⟨h, g, rfl, rfl⟩)⟩⟩, .inr ⟨rfl, e, .inr ⟨rfl, _, _, r, .inr (.inl ⟨h, rfl, rfl, rfl, rfl⟩)⟩⟩⟩
  · exact ⟨_, 0, 0, 0, 0, .inr ⟨rfl, rfl, .inr ⟨rfl, .inr (.inr ⟨h, rfl, rfl, rfl, rfl⟩)⟩⟩, .inr ⟨rfl, e, .inr ⟨rfl, _, _, r, .inr (.inr ⟨h, rfl, rfl, rfl, rfl⟩)⟩⟩⟩
  · exact ⟨_, _, _, 0, 0, .inr ⟨rfl, rfl, .inr ⟨rfl, .inl ⟨h, g, rfl, rfl⟩⟩⟩, .inr ⟨rfl, e, .inr ⟨rfl, _, _, r, .inl ⟨h, rfl, rfl, rfl, rfl⟩⟩⟩⟩
theorem ser_both (b : Bk) (id f t : Int) : ∃ l e, SerAns b id f t l e ∧ RSerAns b id f t l e ∧ l.length ≤ 4000 := by
  unfold SerAns RSerAns
  cases hf : (findA id b.accs).2
  · exact ⟨[], 11, .inl ⟨rfl, rfl, rfl⟩, .inl ⟨rfl, rfl, rfl⟩, by simp⟩
  cases hs : serOk f t
  · exact ⟨[], 1, .inr (.inl ⟨rfl, rfl, rfl, rfl⟩), .inr (.inl ⟨rfl, rfl, rfl, rfl⟩), by simp⟩
  obtain ⟨v1, v2, h1, h2⟩ := serOk_all hs
  obtain ⟨l, hl, hp⟩ := list_choice (P := fun i (x : S66) => IsAcc b id (f + i) x ∧ RIsAcc b id (f + i) x) (t - f + 1).toNat (fun i hi => by
    have b1 := vd_bd v1
    have b2 := vd_bd v2
    obtain ⟨bal, chi, clo, dhi, dlo, h1, h2⟩ := dayIs_both b id (day := f + i) (by unfold vd; simp; omega)
    exact ⟨⟨id, f + i, bal, ⟨chi, clo⟩, ⟨dhi, dlo⟩⟩, ⟨rfl, rfl, h1⟩, ⟨rfl, rfl, h2⟩⟩)
  refine ⟨l, 0, .inr (.inr ⟨rfl, rfl, by omega, fun i hi => (hp i _ (List.getElem?_eq_getElem hi)).1, rfl⟩), .inr (.inr ⟨rfl, rfl, by omega, fun i hi => (hp i _ (List.getElem?_eq_getElem hi)).2, rfl⟩), by omega⟩
theorem same_refl (l : List S66) (hl : l.length ≤ 9000) : ∀ (d k : Nat) (x : Int), 0 ≤ x → x ≤ l.length → (l.length - x).toNat = d → d + 1 ≤ k → corebankref27_Same.l0 k l l x = some true := by
  intro d
  induction d with
  | zero =>
    intro k x h0 h1 hd hk
    obtain ⟨k, rfl⟩ : ∃ i, k = i + 1 := ⟨k - 1, by omega⟩
    have : ¬ x < l.length := by omega
    simp only [corebankref27_Same.l0]
    simp [this]
  | succ d ih =>
    intro k x h0 h1 hd hk
    obtain ⟨k, rfl⟩ : ∃ i, k = i + 1 := ⟨k - 1, by omega⟩
    have h2 : x < l.length := by omega
    have := ih k (x + 1) (by omega) (by omega) (by omega) (by omega)
    simp only [corebankref27_Same.l0]
    simp [h2, h0, w64 (x := x + 1) (by omega) (by omega), this]
theorem same_eq {k : Nat} {l : List S66} (hl : l.length ≤ 9000) (hk : l.length + 1 ≤ k) : corebankref27_Same.f k l l = some true := by
  unfold corebankref27_Same.f
  rw [if_pos rfl]
  exact same_refl l hl l.length k 0 (by omega) (by omega) (by omega) hk
end Go.Proofs.Ytlmabdiodopidaa.G
end
section
set_option linter.unusedVariables false
set_option linter.unusedSimpArgs false
namespace Go.Proofs.Ytlmabdiodopidaa.G
set_option maxRecDepth 100000
open Go.RowKit Go.Proofs.YtlmabdiodopidaaW.PrintWords Go.Proofs.YtlmabdiodopidaaW.PrintLast Go.Proofs.YtlmabdiodopidaaW.PrintMore Go.Proofs.Ytlmabdiodopidaa.P
set_option maxHeartbeats 4000000 in
theorem lawser_calls (cs : List Value) (b : Bk) (id f t : Int) (w0 w : World) (hb0 : Below w0.heap.size w0 w) (hk : kBk.K w0 b cs) :
    Calls Try.prog 11 #[.agg cs.toArray, .int .i64 id, .int .i64 f, .int .i64 t] w fun e w' => e = .returned (.bool true) ∧ Below w.heap.size w w' := by
  obtain ⟨A1, c1, A2, c2, A3, c3, hl, -, -, -, -, -, -, -, -, -⟩ := bk_get hk
  obtain ⟨l, er, hs1, hs2, hlen⟩ := ser_both b id f t
  have H1 := Aside0.mk hs1
  have H2 := Aside0.mk hs2
  have HS := Aside0.mk (same_eq (k := l.length + 1) (by omega) (Nat.le_refl _))
  have HB0 := Aside0.mk hb0
  have HK := Aside0.mk hk
  have HL := Aside0.mk hl
  clear hb0 hk hl hs1 hs2
  have HW := Aside0.mk ((Below.refl w.heap.size w).alloc (Nat.le_refl _) (.cells cs.toArray 63))
  have K0 := Aside0.mk (Blk.new w cs 63)
  go_enter Try.func11, Try.ntmps11
  go_wp2_with (first
    | (refine ld_rng rfl 63 _ rfl (p := ⟨w.heap.size, 0, none⟩) rfl (cs := cs) K0.out.rng Try.underlying63 rfl ?_ ?_; (rw [HL.out]; kernel_rfl)))
  refine (few_calls cs b w0 _ (bstep HB0.out HW.out) HK.out).mono ?_
  rintro e w1 ⟨⟨r, rfl, hr⟩, hb1⟩
  have HR := Aside0.mk hr
  have K1 := Aside0.mk (K0.out.below hb1)
  have HW1 := Aside0.mk (bstep HW.out hb1)
  have LN := Aside0.mk hlen
  clear hr hb1 hlen HW K0
  cases r
  · go_wp2_with (first
      | (go_at_call 30; refine (lives_calls _).mono ?_; rintro e w2 ⟨rfl, hb2⟩))
    go_ret
    exact ⟨rfl, bstep HW1.out hb2⟩
  have HF := Aside0.mk (HR.out rfl).2.2.2.1
  clear HR
  have hq : (0 ≤ f ∧ t ≤ 73048 ∧ 100 < wrap64 (t - f) ∧ wrap64 (t - f) < 4000) ∨ (¬ 0 ≤ f) ∨ (0 ≤ f ∧ ¬ t ≤ 73048) ∨ (0 ≤ f ∧ t ≤ 73048 ∧ ¬ 100 < wrap64 (t - f)) ∨ (0 ≤ f ∧ t ≤ 73048 ∧ 100 < wrap64 (t - f) ∧ ¬ wrap64 (t - f) < 4000) := by omega
  rcases hq with ⟨q0, q1, q2, q3⟩ | hq
  · go_wp2_with (first
      | (go_at_call 30; refine (lives_calls _).mono ?_; rintro e w2 ⟨rfl, hb2⟩))
    go_ret
    exact ⟨rfl, bstep HW1.out hb2⟩
  rcases hq with q0 | ⟨q0, q1⟩ | ⟨q0, q1, q2⟩ | ⟨q0, q1, q2, q3⟩
  all_goals
    go_upto_region 5 with (first
      | (refine ld_rng rfl 63 _ rfl (p := ⟨w.heap.size, 0, none⟩) rfl (cs := cs) K1.out.rng Try.underlying63 rfl ?_ ?_; (rw [HL.out]; kernel_rfl))
      | (refine ld_rng rfl 63 _ rfl (p := ⟨w.heap.size, 0, none⟩) rfl (cs := cs) K2.out.rng Try.underlying63 rfl ?_ ?_; (rw [HL.out]; kernel_rfl))
      | (go_at_call 33; refine (series_calls cs b id f t l er w0 _ (bstep HB0.out HW1.out) HK.out HF.out H1.out).mono ?_; rintro e w2 ⟨v, rfl, hr2, hb2⟩; have R2 := Aside0.mk hr2; have K2 := Aside0.mk (K1.out.below hb2); have HW2 := Aside0.mk (bstep HW1.out hb2); clear hr2 hb2)
      | (go_at_call 34; refine (rseries_calls cs b id f t l er w0 _ (bstep HB0.out HW2.out) HK.out H2.out).mono ?_; rintro e w3 ⟨v', rfl, hr3, hb3⟩; have R3 := Aside0.mk (Kd.R_below R2.out hb3); have S3 := Aside0.mk hr3; have HW3 := Aside0.mk (bstep HW2.out hb3); clear hr3 hb3 R2))
    clear K1 K2 HW1 HW2
    obtain ⟨A4, c4, e4, l4, C4⟩ := Kd.R_reads R3.out
    obtain ⟨A5, c5, e5, l5, C5⟩ := Kd.R_reads S3.out
    subst e4 e5
    have C4 := Aside0.mk C4
    have C5 := Aside0.mk C5
    have L4 := Aside0.mk l4
    have L5 := Aside0.mk l5
    clear R3 S3 l4 l5 H1 H2
    go_wp2_with (first
      | (go_at_call 35; refine (corebankref27_Same.calls (l.length + 1) A4 c4 l A5 c5 l true _ C4.out L4.out C5.out L5.out HS.out).mono ?_; rintro e w4 ⟨rfl, ⟨nd, rfl⟩⟩; have HW4 := Aside0.mk (pw_below_drewN HW3.out nd))
      | (go_at_call 30; refine (lives_calls _).mono ?_; rintro e w5 ⟨rfl, hb5⟩))
    go_ret
    exact ⟨rfl, bstep HW4.out hb5⟩
end Go.Proofs.Ytlmabdiodopidaa.G
end
