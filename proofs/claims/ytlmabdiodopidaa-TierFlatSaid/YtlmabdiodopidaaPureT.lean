/- What the printed functions of package tier and of its reference compute: lists and numbers alone. -/
import Derived.Test.YtlmabdiodopidaaPureB
import Derived.Test.YtlmabdiodopidaaTier
import Derived.Test.YtlmabdiodopidaaTypes
import Derived.Test.YtlmabdiodopidaaPx5
import Derived.Test.YtlmabdiodopidaaPx8
import Derived.Test.YtlmabdiodopidaaPx16
import Derived.Test.YtlmabdiodopidaaPx7
namespace Go.Proofs.Ytlmabdiodopidaa.G
open Go.RowKit Go.Proofs.Ytlmabdiodopidaa.P Go.Proofs.YtlmabdiodopidaaW.PrintWords

theorem rd50_mem {l : List S50} {x : Int} (h0 : 0 ≤ x) (h1 : x < l.length) : rd_T50 l x ∈ l := by
  unfold rd_T50
  rw [List.getD_eq_getElem?_getD, List.getElem?_eq_getElem (by omega), Option.getD_some]
  exact List.getElem_mem _
theorem drop50 {l : List S50} {x : Int} (h0 : 0 ≤ x) (h1 : x < l.length) : l.drop x.toNat = rd_T50 l x :: l.drop (x + 1).toNat := by
  unfold rd_T50
  rw [List.getD_eq_getElem?_getD, List.getElem?_eq_getElem (by omega), Option.getD_some, show (x + 1).toNat = x.toNat + 1 by omega]
  exact List.drop_eq_getElem_cons (by omega)

/-! ### Check -/
theorem ref_Check_l1 (l : List S50) (hl : l.length ≤ 6) : ∀ (d k : Nat) (x : Int), 1 ≤ x → x ≤ 7 → (7 - x).toNat = d → d + 1 ≤ k → ascTo l (if x ≤ l.length then x else l.length) →
    corebankref14_Check.l1 k l x = some (if ascB l = false then 10 else if l ≠ [] ∧ (rd_T50 l 0).f0 ≠ 0 then 1 else 0) := by
  intro d
  induction d with
  | zero =>
    intro k x h1 h2 hd hk ha
    obtain ⟨k, rfl, hk⟩ := step1 hk
    simp only [corebankref14_Check.l1]
    have hx : ¬ x < l.length := by omega
    rw [if_neg hx]
    have hy : ascB l = true := ascB_yes (fun i a b => ha i a (by split <;> omega))
    rw [hy]
    by_cases hn : l = []
    · subst hn; simp
    · have : 0 < l.length := List.length_pos_iff.2 hn
      rw [if_pos (by omega), if_pos (by omega)]
      by_cases hf : (rd_T50 l 0).f0 = 0
      · rw [if_pos hf]; simp [hf]
      · rw [if_neg hf]; simp [hf, hn]
  | succ d ih =>
    intro k x h1 h2 hd hk ha
    obtain ⟨k, rfl, hk⟩ := step1 hk
    simp only [corebankref14_Check.l1]
    by_cases hx : x < l.length
    · have e1 : wrap64 (x - 1) = x - 1 := w64 (by omega) (by omega)
      have e2 : wrap64 (x + 1) = x + 1 := w64 (by omega) (by omega)
      rw [if_pos hx, if_pos (by omega), e1, e2, if_pos (by omega), if_pos (by omega)]
      by_cases hv : (rd_T50 l x).f0 ≤ (rd_T50 l (x - 1)).f0
      · rw [if_pos hv, ascB_no h1 hx hv]; simp
      · rw [if_neg hv]
        refine ih k (x + 1) (by omega) (by omega) (by omega) (by omega) (fun i a b => ?_)
        by_cases hi : i = x
        · subst hi; omega
        · exact ha i a (by split at b <;> split <;> omega)
    · rw [if_neg hx]
      have hy : ascB l = true := ascB_yes (fun i a b => ha i a (by split <;> omega))
      rw [hy]
      by_cases hn : l = []
      · subst hn; simp
      · have : 0 < l.length := List.length_pos_iff.2 hn
        rw [if_pos (by omega), if_pos (by omega)]
        by_cases hf : (rd_T50 l 0).f0 = 0
        · rw [if_pos hf]; simp [hf]
        · rw [if_neg hf]; simp [hf, hn]
theorem ref_Check_l0 (l : List S50) (hl : l.length ≤ 6) : ∀ (d k : Nat) (x : Int), 0 ≤ x → x ≤ l.length → (l.length - x).toNat = d → d + 9 ≤ k → (∀ i : Int, 0 ≤ i → i < x → badT (rd_T50 l i) = false) →
    corebankref14_Check.l0 k l x = some (checkT l) := by
  intro d
  induction d with
  | zero =>
    intro k x h1 h2 hd hk ha
    obtain ⟨k, rfl, hk⟩ := step1 hk
    simp only [corebankref14_Check.l0]
    rw [if_neg (by omega), ref_Check_l1 l hl 6 k 1 (by omega) (by omega) (by omega) (by omega) (fun i a b => by split at b <;> omega)]
    unfold checkT
    have hl' : ¬ 6 < l.length := by omega
    rw [if_neg hl', bad_none (fun i a b => ha i a (by omega))]
    simp
  | succ d ih =>
    intro k x h1 h2 hd hk ha
    obtain ⟨k, rfl, hk⟩ := step1 (n := d + 9) hk
    simp only [corebankref14_Check.l0]
    have hx : x < l.length := by omega
    have e2 : wrap64 (x + 1) = x + 1 := w64 (by omega) (by omega)
    rw [if_pos hx, if_pos h1, e2]
    have bad := fun h => check_bad (l := l) (by omega) h1 hx h
    by_cases c1 : (rd_T50 l x).f0 < 0
    · rw [if_pos c1, bad (by unfold badT; simp; omega)]
    rw [if_neg c1]
    by_cases c2 : (rd_T50 l x).f0 > 1000000000000
    · rw [if_pos c2, bad (by unfold badT; simp; omega)]
    rw [if_neg c2]
    by_cases c3 : (rd_T50 l x).f1 < 0
    · rw [if_pos c3, bad (by unfold badT; simp; omega)]
    rw [if_neg c3]
    by_cases c4 : (rd_T50 l x).f1 > 1000000
    · rw [if_pos c4, bad (by unfold badT; simp; omega)]
    rw [if_neg c4]
    refine ih k (x + 1) (by omega) (by omega) (by omega) (by omega) (fun i a b => ?_)
    by_cases hi : i = x
    · subst hi; unfold badT; simp; omega
    · exact ha i a (by omega)
theorem ref_Check_eq {k : Nat} {l : List S50} (hk : 20 ≤ k) : corebankref14_Check.f k l = some (checkT l) := by
  unfold corebankref14_Check.f
  by_cases hl : (l.length : Int) > 6
  · rw [if_pos hl]; unfold checkT; rw [if_pos (by omega)]
  · rw [if_neg hl]
    exact ref_Check_l0 l (by omega) _ k 0 (by omega) (by omega) rfl (by omega) (fun i a b => by omega)
/-- tiers that are accepted -/
structure Good (l : List S50) : Prop where
  len : l.length ≤ 6
  ok : ∀ x ∈ l, 0 ≤ x.f0 ∧ x.f0 ≤ 1000000000000 ∧ 0 ≤ x.f1 ∧ x.f1 ≤ 1000000
  up : ∀ i : Int, 1 ≤ i → i < l.length → (rd_T50 l (i - 1)).f0 < (rd_T50 l i).f0
  zero : l ≠ [] → (rd_T50 l 0).f0 = 0
theorem good_of {l : List S50} (h : checkT l = 0) : Good l := by
  unfold checkT at h
  by_cases c1 : 6 < l.length
  · rw [if_pos c1] at h; omega
  rw [if_neg c1] at h
  by_cases c2 : l.any badT = true
  · rw [if_pos c2] at h; omega
  rw [if_neg c2] at h
  by_cases c3 : ascB l = false
  · rw [if_pos c3] at h; omega
  rw [if_neg c3] at h
  by_cases c4 : l ≠ [] ∧ (rd_T50 l 0).f0 ≠ 0
  · rw [if_pos c4] at h; omega
  refine ⟨by omega, fun x hx => ?_, fun i h1 h2 => ?_, fun hn => ?_⟩
  · have hb : badT x = false := by
      have := List.any_eq_false.1 (by simpa using c2) x hx
      simpa using this
    unfold badT at hb
    simp at hb
    omega
  · by_cases hv : (rd_T50 l i).f0 ≤ (rd_T50 l (i - 1)).f0
    · exact absurd (ascB_no h1 h2 hv) c3
    · omega
  · exact Decidable.byContradiction fun hz => c4 ⟨hn, hz⟩

/-! ### sizes and rates -/
/-- the size of a balance -/
def szB (b : Int) : Int := if b = -9223372036854775808 then 9223372036854775807 else if b < 0 then -b else b
theorem szB_ok {b : Int} (h : okI b) : 0 ≤ szB b ∧ szB b ≤ 9223372036854775807 := by unfold okI at h; unfold szB; split <;> (try split) <;> omega
theorem tier_size_eq {b : Int} (h : okI b) : tier_size.f b = some (szB b) := by
  unfold okI at h
  unfold tier_size.f szB mx
  by_cases h0 : b = -9223372036854775808
  · subst h0; rfl
  · rw [if_neg (by omega), w64 (by omega) (by omega), if_neg h0]
    simp only [Option.some.injEq]
    split <;> split <;> omega
theorem ref_Size_eq {b : Int} (h : okI b) : corebankref14_Size.f b = some (szB b) := by
  unfold okI at h
  unfold corebankref14_Size.f szB
  split
  · rfl
  · split
    · rw [w64 (by omega) (by omega)]
    · rfl
/-- the rate of the last tier that is reached -/
def rateL (s : Int) : List S50 → Int → Int
  | [], acc => acc
  | t :: l, acc => rateL s l (if t.f0 ≤ s then t.f1 else acc)
theorem tier_Rate_loop {b : Int} (hb : okI b) (l : List S50) (hl : l.length ≤ 6) : ∀ (d k : Nat) (x acc : Int), 0 ≤ x → x ≤ l.length → (l.length - x).toNat = d → d + 1 ≤ k → tier_Rate.l0 k b acc l l.length x = some (rateL (szB b) (l.drop x.toNat) acc) := by
  intro d
  induction d with
  | zero =>
    intro k x acc h1 h2 hd hk
    obtain ⟨k, rfl, _⟩ := step1 hk
    simp only [tier_Rate.l0]
    rw [if_neg (by omega), List.drop_eq_nil_of_le (by omega)]
    rfl
  | succ d ih =>
    intro k x acc h1 h2 hd hk
    obtain ⟨k, rfl, _⟩ := step1 hk
    have hx : x < l.length := by omega
    simp only [tier_Rate.l0]
    rw [if_pos hx, if_pos h1, if_pos hx, tier_size_eq hb, w64 (by omega) (by omega), drop50 h1 hx]
    simp only [Option.bind_some, rateL]
    split <;> exact ih k (x + 1) _ (by omega) (by omega) (by omega) (by omega)
theorem ref_Rate_loop {b : Int} (hb : okI b) (l : List S50) (hl : l.length ≤ 6) : ∀ (d k : Nat) (x acc : Int), 0 ≤ x → x ≤ l.length → (l.length - x).toNat = d → d + 1 ≤ k → corebankref14_Rate.l0 k l b acc x = some (rateL (szB b) (l.drop x.toNat) acc) := by
  intro d
  induction d with
  | zero =>
    intro k x acc h1 h2 hd hk
    obtain ⟨k, rfl, _⟩ := step1 hk
    simp only [corebankref14_Rate.l0]
    rw [if_neg (by omega), List.drop_eq_nil_of_le (by omega)]
    rfl
  | succ d ih =>
    intro k x acc h1 h2 hd hk
    obtain ⟨k, rfl, _⟩ := step1 hk
    have hx : x < l.length := by omega
    simp only [corebankref14_Rate.l0]
    rw [if_pos hx, if_pos h1, ref_Size_eq hb, w64 (by omega) (by omega), drop50 h1 hx]
    simp only [Option.bind_some, rateL]
    split <;> exact ih k (x + 1) _ (by omega) (by omega) (by omega) (by omega)
/-- the rate of a balance -/
def rateB (l : List S50) (b : Int) : Int := if checkT l = 0 then rateL (szB b) l 0 else 0
theorem tier_Rate_eq {k : Nat} {l : List S50} {b : Int} (hk : 20 ≤ k) (hb : okI b) : tier_Rate.f k l b = some (rateB l b) := by
  unfold tier_Rate.f tier_Check.f rateB
  simp only [Option.bind_some]
  by_cases h : checkT l = 0
  · rw [if_pos h, if_pos h, tier_Rate_loop hb l (good_of h).len _ k 0 0 (by omega) (by omega) rfl (by have := (good_of h).len; omega)]
    rfl
  · rw [if_neg h, if_neg h]
theorem ref_Rate_eq {k : Nat} {l : List S50} {b : Int} (hk : 20 ≤ k) (hb : okI b) : corebankref14_Rate.f k l b = some (rateB l b) := by
  unfold corebankref14_Rate.f rateB
  rw [ref_Check_eq hk]
  simp only [Option.bind_some]
  by_cases h : checkT l = 0
  · rw [if_pos h, if_pos h, ref_Rate_loop hb l (good_of h).len _ k 0 0 (by omega) (by omega) rfl (by have := (good_of h).len; omega)]
    rfl
  · rw [if_neg h, if_neg h]

/-! ### slices -/
/-- the parts of n -/
def partsL (n : Int) : List S50 → List S43
  | [] => []
  | [t] => if t.f0 < n then [⟨n - t.f0, t.f1⟩] else []
  | t :: u :: l => (if t.f0 < mn n u.f0 then [⟨mn n u.f0 - t.f0, t.f1⟩] else []) ++ partsL n (u :: l)
theorem drop50_two {l : List S50} {x : Int} (h0 : 0 ≤ x) (h1 : x + 1 < l.length) : l.drop x.toNat = rd_T50 l x :: rd_T50 l (x + 1) :: l.drop (x + 2).toNat := by
  rw [drop50 h0 (by omega), drop50 (x := x + 1) (by omega) h1, show x + 1 + 1 = x + 2 by omega]
theorem partsL_step {l : List S50} {x n : Int} (h0 : 0 ≤ x) (h1 : x + 1 < l.length) : partsL n (l.drop x.toNat) = (if (rd_T50 l x).f0 < mn n (rd_T50 l (x + 1)).f0 then [⟨mn n (rd_T50 l (x + 1)).f0 - (rd_T50 l x).f0, (rd_T50 l x).f1⟩] else []) ++ partsL n (l.drop (x + 1).toNat) := by
  rw [drop50_two h0 h1, partsL, drop50 (x := x + 1) (by omega) h1, show x + 1 + 1 = x + 2 by omega]
theorem partsL_last {l : List S50} {x n : Int} (h0 : 0 ≤ x) (h1 : x < l.length) (h2 : ¬ x + 1 < l.length) : partsL n (l.drop x.toNat) = (if (rd_T50 l x).f0 < n then [⟨n - (rd_T50 l x).f0, (rd_T50 l x).f1⟩] else []) := by
  rw [drop50 h0 h1, List.drop_eq_nil_of_le (by omega), partsL]
theorem mn_le (a b : Int) : mn a b ≤ a ∧ mn a b ≤ b ∧ (mn a b = a ∨ mn a b = b) := by unfold mn; split <;> omega
theorem tier_Slices_loop {l : List S50} (g : Good l) {n : Int} (hn : 0 ≤ n ∧ n ≤ 9223372036854775807) : ∀ (d k : Nat) (x : Int) (acc : List S43), 0 ≤ x → x ≤ l.length → (l.length - x).toNat = d → d + 1 ≤ k → acc.length + d ≤ 100 →
    tier_Slices.l0 k l n acc l l.length x = some (acc ++ partsL n (l.drop x.toNat)) := by
  have hl := g.len
  intro d
  induction d with
  | zero =>
    intro k x acc h1 h2 hd hk _
    obtain ⟨k, rfl, _⟩ := step1 hk
    simp only [tier_Slices.l0]
    rw [if_neg (by omega), List.drop_eq_nil_of_le (by omega), partsL, List.append_nil]
  | succ d ih =>
    intro k x acc h1 h2 hd hk ha
    obtain ⟨k, rfl, _⟩ := step1 hk
    have hx : x < l.length := by omega
    obtain ⟨b1, b2, b3, b4⟩ := g.ok _ (rd50_mem h1 hx)
    have e2 : wrap64 (x + 1) = x + 1 := w64 (by omega) (by omega)
    simp only [tier_Slices.l0]
    rw [if_pos hx, if_pos h1, if_pos hx, e2]
    by_cases hy : x + 1 < l.length
    · obtain ⟨c1, c2, c3, c4⟩ := g.ok _ (rd50_mem (x := x + 1) (by omega) hy)
      have m1 := mn_le n (rd_T50 l (x + 1)).f0
      rw [if_pos hy, if_pos (by omega), partsL_step h1 hy]
      by_cases hc : mn n (rd_T50 l (x + 1)).f0 > (rd_T50 l x).f0
      · rw [if_pos hc, if_pos (by omega), w64 (by omega) (by omega), ih k (x + 1) _ (by omega) (by omega) (by omega) (by omega) (by rw [List.length_append, List.length_singleton]; omega), if_pos (by omega), List.append_assoc]
      · rw [if_neg hc, ih k (x + 1) _ (by omega) (by omega) (by omega) (by omega) (by omega), if_neg (by omega), List.nil_append]
    · rw [if_neg hy, partsL_last h1 hx hy]
      have en : l.drop (x + 1).toNat = [] := List.drop_eq_nil_of_le (by omega)
      by_cases hc : n > (rd_T50 l x).f0
      · rw [if_pos hc, if_pos (by omega), w64 (by omega) (by omega), ih k (x + 1) _ (by omega) (by omega) (by omega) (by omega) (by rw [List.length_append, List.length_singleton]; omega), if_pos (by omega), en, partsL, List.append_nil]
      · rw [if_neg hc, ih k (x + 1) _ (by omega) (by omega) (by omega) (by omega) (by omega), if_neg (by omega), en, partsL]
theorem ref_Slices_loop {l : List S50} (g : Good l) {n : Int} (hn : 0 ≤ n ∧ n ≤ 9223372036854775807) : ∀ (d k : Nat) (x : Int) (acc : List S43), 0 ≤ x → x ≤ l.length → (l.length - x).toNat = d → 2 * d + 1 ≤ k → acc.length + d ≤ 100 →
    corebankref14_Slices.l0 k l acc n x = some (acc ++ partsL n (l.drop x.toNat)) := by
  have hl := g.len
  intro d
  induction d with
  | zero =>
    intro k x acc h1 h2 hd hk _
    obtain ⟨k, rfl, _⟩ := step1 hk
    simp only [corebankref14_Slices.l0]
    rw [if_neg (by omega), List.drop_eq_nil_of_le (by omega), partsL, List.append_nil]
  | succ d ih =>
    intro k x acc h1 h2 hd hk ha
    obtain ⟨k, rfl, _⟩ := step1 (n := 2 * d + 2) (by omega)
    obtain ⟨k, rfl, _⟩ := step1 (n := 2 * d + 1) (k := k) (by omega)
    have hx : x < l.length := by omega
    obtain ⟨b1, b2, b3, b4⟩ := g.ok _ (rd50_mem h1 hx)
    have e2 : wrap64 (x + 1) = x + 1 := w64 (by omega) (by omega)
    simp only [corebankref14_Slices.l0]
    rw [if_pos hx, e2]
    by_cases hy : x + 1 < l.length
    · obtain ⟨c1, c2, c3, c4⟩ := g.ok _ (rd50_mem (x := x + 1) (by omega) hy)
      rw [if_pos hy, if_pos (by omega), partsL_step h1 hy]
      simp only [corebankref14_Slices.j2]
      rw [e2]
      by_cases hm : (rd_T50 l (x + 1)).f0 < n
      · have em : mn n (rd_T50 l (x + 1)).f0 = (rd_T50 l (x + 1)).f0 := by unfold mn; rw [if_pos hm]
        rw [if_pos (by simpa using hm), if_pos (by omega), if_pos hy, if_pos h1, if_pos hx, em]
        by_cases hc : (rd_T50 l (x + 1)).f0 > (rd_T50 l x).f0
        · rw [if_pos hc, if_pos (by omega), w64 (by omega) (by omega), ih k (x + 1) _ (by omega) (by omega) (by omega) (by omega) (by rw [List.length_append, List.length_singleton]; omega), if_pos (by omega), List.append_assoc]
        · rw [if_neg hc, ih k (x + 1) _ (by omega) (by omega) (by omega) (by omega) (by omega), if_neg (by omega), List.nil_append]
      · have em : mn n (rd_T50 l (x + 1)).f0 = n := by unfold mn; rw [if_neg hm]
        rw [if_neg (by simpa using hm), if_pos h1, if_pos hx, em]
        by_cases hc : n > (rd_T50 l x).f0
        · rw [if_pos hc, if_pos (by omega), w64 (by omega) (by omega), ih k (x + 1) _ (by omega) (by omega) (by omega) (by omega) (by rw [List.length_append, List.length_singleton]; omega), if_pos (by omega), List.append_assoc]
        · rw [if_neg hc, ih k (x + 1) _ (by omega) (by omega) (by omega) (by omega) (by omega), if_neg (by omega), List.nil_append]
    · rw [if_neg hy, partsL_last h1 hx hy]
      simp only [corebankref14_Slices.j2]
      rw [if_neg (by simp), if_pos h1, if_pos hx, e2]
      have en : l.drop (x + 1).toNat = [] := List.drop_eq_nil_of_le (by omega)
      by_cases hc : n > (rd_T50 l x).f0
      · rw [if_pos hc, if_pos (by omega), w64 (by omega) (by omega), ih k (x + 1) _ (by omega) (by omega) (by omega) (by omega) (by rw [List.length_append, List.length_singleton]; omega), if_pos (by omega), en, partsL, List.append_nil]
      · rw [if_neg hc, ih k (x + 1) _ (by omega) (by omega) (by omega) (by omega) (by omega), if_neg (by omega), en, partsL]
/-- the slices of a balance -/
def slicesB (l : List S50) (m : Bool) (b : Int) : List S43 := if checkT l ≠ 0 ∨ l = [] ∨ szB b = 0 then [] else if m = true then partsL (szB b) l else [⟨szB b, rateB l b⟩]
theorem tier_Slices_eq {k : Nat} {l : List S50} {m : Bool} {b : Int} (hk : 30 ≤ k) (hb : okI b) : tier_Slices.f k l m b = some (slicesB l m b) := by
  obtain ⟨k, rfl, hk⟩ := step1 (n := 29) hk
  have hn := szB_ok hb
  unfold tier_Slices.f tier_Check.f slicesB
  rw [tier_size_eq hb]
  simp only [Option.bind_some, tier_Slices.j0]
  by_cases hl : l = []
  · subst hl; simp
  have h0 : ¬ (l.length : Int) = 0 := fun h => hl (List.length_eq_zero_iff.1 (by omega))
  rw [if_neg h0]
  by_cases hc : checkT l = 0
  · rw [if_pos hc]
    by_cases hz : szB b = 0
    · simp [hz]
    · have e1 : (szB b == 0) = false := by simpa using hz
      have e2 : ¬ (checkT l ≠ 0 ∨ l = [] ∨ szB b = 0) := by simp [hc, hl, hz]
      rw [if_neg e2, e1]
      simp only [Bool.false_eq_true, if_false]
      by_cases hm : m = true
      · rw [if_pos hm, if_pos hm, tier_Slices_loop (good_of hc) hn _ k 0 [] (by omega) (by omega) rfl (by have := (good_of hc).len; omega) (by have := (good_of hc).len; simp; omega)]
        rfl
      · rw [if_neg hm, if_neg hm, tier_Rate_eq (by omega) hb]
        rfl
  · simp [hc]
theorem ref_Slices_eq {k : Nat} {l : List S50} {m : Bool} {b : Int} (hk : 30 ≤ k) (hb : okI b) : corebankref14_Slices.f k l m b = some (slicesB l m b) := by
  obtain ⟨k, rfl, hk⟩ := step1 (n := 29) hk
  have hn := szB_ok hb
  unfold corebankref14_Slices.f slicesB
  simp only [Option.bind_some]
  rw [ref_Size_eq hb, ref_Check_eq (by omega)]
  simp only [Option.bind_some, corebankref14_Slices.j0]
  by_cases hc : checkT l = 0
  · rw [if_pos hc]
    by_cases hl : l = []
    · subst hl; simp
    have h0 : ¬ (l.length : Int) = 0 := fun h => hl (List.length_eq_zero_iff.1 (by omega))
    rw [if_neg h0]
    by_cases hz : szB b = 0
    · simp [hz]
    · have e1 : (szB b == 0) = false := by simpa using hz
      have e2 : ¬ (checkT l ≠ 0 ∨ l = [] ∨ szB b = 0) := by simp [hc, hl, hz]
      rw [if_neg e2, e1]
      simp only [Bool.false_eq_true, if_false]
      by_cases hm : m = true
      · rw [if_pos hm, if_pos hm, ref_Slices_loop (good_of hc) hn _ k 0 [] (by omega) (by omega) rfl (by have := (good_of hc).len; omega) (by have := (good_of hc).len; simp; omega)]
        rfl
      · rw [if_neg hm, if_neg hm, ref_Rate_eq (by omega) hb]
        rfl
  · simp [hc]
theorem ref_Same_refl (l : List S43) (hl : l.length ≤ 9000) : ∀ (d k : Nat) (x : Int), 0 ≤ x → x ≤ l.length → (l.length - x).toNat = d → d + 1 ≤ k → corebankref14_Same.l0 k l l x = some true := by
  intro d
  induction d with
  | zero =>
    intro k x h1 h2 hd hk
    obtain ⟨k, rfl, _⟩ := step1 hk
    simp only [corebankref14_Same.l0]
    rw [if_neg (by omega)]
  | succ d ih =>
    intro k x h1 h2 hd hk
    obtain ⟨k, rfl, _⟩ := step1 hk
    simp only [corebankref14_Same.l0]
    rw [if_pos (by omega), if_pos h1, if_pos (by omega), if_neg (by simp), w64 (by omega) (by omega)]
    exact ih k (x + 1) (by omega) (by omega) (by omega) (by omega)
theorem ref_Same_eq {k : Nat} {l : List S43} (hl : l.length ≤ 9000) (hk : l.length + 1 ≤ k) : corebankref14_Same.f k l l = some true := by
  unfold corebankref14_Same.f
  rw [if_pos rfl]
  exact ref_Same_refl l hl _ k 0 (by omega) (by omega) rfl (by omega)
theorem partsL_len (n : Int) : ∀ l : List S50, (partsL n l).length ≤ l.length
  | [] => by simp [partsL]
  | [t] => by unfold partsL; split <;> simp
  | t :: u :: l => by
    have := partsL_len n (u :: l)
    unfold partsL
    rw [List.length_append]
    split <;> simp at this ⊢ <;> omega
theorem slicesB_len (l : List S50) (m : Bool) (b : Int) : (slicesB l m b).length ≤ 6 := by
  unfold slicesB
  split
  · simp
  · rename_i h
    have hc : checkT l = 0 := Decidable.byContradiction fun hc => h (.inl hc)
    split
    · exact Nat.le_trans (partsL_len _ _) (good_of hc).len
    · simp
end Go.Proofs.Ytlmabdiodopidaa.G
