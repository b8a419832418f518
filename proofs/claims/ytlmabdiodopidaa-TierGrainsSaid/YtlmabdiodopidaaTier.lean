/- tier.Check: what it returns, by hand (it hands a function value to a generic helper). -/
import Derived.Test.YtlmabdiodopidaaPx0
import Derived.Test.YtlmabdiodopidaaLeaf
import Derived.Deep.RegionHeld3
import Derived.Outline
namespace Go.Proofs.Ytlmabdiodopidaa.G
open Go.RowKit Go.Proofs.YtlmabdiodopidaaW.PrintWords Go.Proofs.YtlmabdiodopidaaW.PrintLast Go.Proofs.YtlmabdiodopidaaW.PrintMore Go.Proofs.Ytlmabdiodopidaa.P

theorem key_calls (f p : Int) (w : World) : Calls Try.prog 40 #[.agg #[.int .i64 f, .int .i64 p]] w fun e w' => e = .returned (.int .i64 f) ∧ Below w.heap.size w w' := by
  go_enter Try.func40, Try.ntmps40
  go_wp2
  go_ret
  exact ⟨rfl, (Below.refl _ _).alloc (Nat.le_refl _) _⟩

theorem keepc {W w1 : World} {a : Addr} {v : Value} (hb : Below W.heap.size W w1) (h : W.cell? a = some v) : w1.cell? a = some v := (hb.cell (World.block_lt_of_cell? W a h)).trans h
theorem bstep {w W w1 : World} (h : Below w.heap.size w W) (k : Below W.heap.size W w1) : Below w.heap.size w w1 := h.trans (k.mono h.size)
/-- ascending up to place k -/
def ascTo (l : List S50) (k : Int) : Prop := ∀ i : Int, 1 ≤ i → i < k → (rd_T50 l (i - 1)).f0 < (rd_T50 l i).f0
/-- are the keys strictly ascending -/
def ascB (l : List S50) : Bool := (List.range l.length).all fun i => i == 0 || decide ((rd_T50 l ((i : Int) - 1)).f0 < (rd_T50 l i).f0)
theorem ascB_yes {l : List S50} (h : ascTo l l.length) : ascB l = true := by
  unfold ascB
  rw [List.all_eq_true]
  intro i hi
  have hi' := List.mem_range.1 hi
  by_cases h0 : i = 0
  · simp [h0]
  · have := h i (by omega) (by omega)
    simp [this]
theorem ascB_no {l : List S50} {x : Int} (h1 : 1 ≤ x) (h2 : x < l.length) (h : (rd_T50 l x).f0 ≤ (rd_T50 l (x - 1)).f0) : ascB l = false := by
  unfold ascB
  rw [List.all_eq_false]
  refine ⟨x.toNat, List.mem_range.2 (by omega), ?_⟩
  rw [Int.toNat_of_nonneg (by omega)]
  have : ¬ x.toNat = 0 := by omega
  simp [this]
  omega
theorem retb {a b : Bool} (h : a = b) : Ending.returned (.bool a) = .returned (.bool b) := by rw [h]

set_option maxHeartbeats 1000000 in
theorem ascending_calls (A : Option Addr) (c : Nat) (l : List S50) (w : World) (hr : Kd.C k50 w A l.length l) (hl : l.length ≤ 6) :
    Calls Try.prog 39 #[.slice A l.length c, .func (.func 40) #[] #[]] w fun e w' => e = .returned (.bool (ascB l)) ∧ Below w.heap.size w w' := by
  have HR := Aside0.mk hr
  clear hr
  go_enter Try.func39, Try.ntmps39
  go_wp2
  go_loopw [5] (fun i wr => ∃ x : Int, 1 ≤ x ∧ x ≤ l.length + 1 ∧ i = .int .i64 x ∧ Aside0 (Below w.heap.size w wr) ∧ Aside0 (ascTo l (if x ≤ l.length then x else l.length))) (fun i _ => (l.length + 1) - (intOf i).toNat)
  case atStart => exact ⟨1, by omega, by omega, rfl, ⟨Below.refl _ _⟩, ⟨fun i h1 h2 => by split at h2 <;> omega⟩⟩
  case round =>
    obtain ⟨x, k1, k2, rfl, hb, ha⟩ := hrel
    by_cases hlt : x < l.length
    · obtain ⟨ad, rfl, hx0, hx1⟩ := at_T50 HR.out x (by omega) hlt
      obtain ⟨ad', e', hy0, hy1⟩ := at_T50 HR.out (x - 1) (by omega) (by omega)
      cases e'
      have xe : (x - 1).toNat = x.toNat - 1 := by omega
      rw [xe] at hy0 hy1
      clear xe
      have z4 : IntKind.i64.wrap (x - 1) = x - 1 := by rw [IntKind.wrap_i64]; omega
      have z1 : 0 ≤ x := by omega
      have z2 : 0 ≤ x - 1 := by omega
      have z3 : x - 1 < (l.length : Int) := by omega
      have gx0 := keepc hb.out hx0
      have gx1 := keepc hb.out hx1
      have gy0 := keepc hb.out hy0
      have gy1 := keepc hb.out hy1
      clear hx0 hx1 hy0 hy1
      by_cases hv : (rd_T50 l x).f0 ≤ (rd_T50 l (x - 1)).f0
      all_goals
        go_wp2
        go_region_held3 (fun w' => w'.cell? (ad.add (x.toNat * 2)) = some (.int .i64 (rd_T50 l x).f0) ∧ w'.cell? ⟨(ad.add (x.toNat * 2)).block, (ad.add (x.toNat * 2)).off + 1, none⟩ = some (.int .i64 (rd_T50 l x).f1) ∧ w'.cell? (ad.add ((x.toNat - 1) * 2)) = some (.int .i64 (rd_T50 l (x - 1)).f0) ∧ w'.cell? ⟨(ad.add ((x.toNat - 1) * 2)).block, (ad.add ((x.toNat - 1) * 2)).off + 1, none⟩ = some (.int .i64 (rd_T50 l (x - 1)).f1))
          (first
            | exact ⟨gx0, gx1, gy0, gy1⟩
            | go_keep
            | (go_split_ands
               refine ⟨?_, ?_, ?_, ?_⟩ <;> exact keepc hb1 (by assumption)))
          (first
            | (go_at_call 40; refine (key_calls _ _ _).mono ?_; rintro e w1 ⟨rfl, hb1⟩))
        go_wp2
      · go_ret
        exact ⟨retb (ascB_no k1 hlt hv).symm, bstep (bstep hb.out.drew (by assumption)) hb1⟩
      · go_roundw
        case rel => exact ⟨x + 1, by omega, by omega, by go_num, ⟨bstep (bstep hb.out.drew (by assumption)) hb1⟩, ⟨fun i h1 h2 => by
          by_cases hi : i = x
          · subst hi; omega
          · exact ha.out i h1 (by split at h2 <;> split <;> omega)⟩⟩
        case measure => simp [intOf]; omega
    · go_wp2
      go_ret
      exact ⟨retb (ascB_yes (fun i h1 h2 => ha.out i h1 (by split <;> omega))).symm, hb.out⟩
/-- a tier with a number out of its range -/
def badT (t : S50) : Bool := decide (t.f0 < 0) || decide (1000000000000 < t.f0) || decide (t.f1 < 0) || decide (1000000 < t.f1)
/-- what Check returns -/
def checkT (l : List S50) : Int := if 6 < l.length then 5 else if l.any badT then 1 else if ascB l = false then 10 else if l ≠ [] ∧ (rd_T50 l 0).f0 ≠ 0 then 1 else 0
def tier_Check.f (l0 : List S50) : Option Int := some (checkT l0)

theorem bad_at {l : List S50} {x : Int} (h0 : 0 ≤ x) (h1 : x < l.length) (h : badT (rd_T50 l x) = true) : l.any badT = true := by
  rw [List.any_eq_true]
  refine ⟨rd_T50 l x, ?_, h⟩
  unfold rd_T50
  rw [List.getD_eq_getElem?_getD, List.getElem?_eq_getElem (by omega), Option.getD_some]
  exact List.getElem_mem _
theorem bad_none {l : List S50} (h : ∀ i : Int, 0 ≤ i → i < l.length → badT (rd_T50 l i) = false) : l.any badT = false := by
  rw [List.any_eq_false]
  intro t ht
  obtain ⟨i, hi, rfl⟩ := List.mem_iff_getElem.1 ht
  have := h i (by omega) (by omega)
  unfold rd_T50 at this
  rw [Int.toNat_natCast, List.getD_eq_getElem?_getD, List.getElem?_eq_getElem hi, Option.getD_some] at this
  simp [this]

theorem check_bad {l : List S50} {x : Int} (c1 : ¬ 6 < l.length) (h0 : 0 ≤ x) (h1 : x < l.length) (h : badT (rd_T50 l x) = true) : checkT l = 1 := by
  unfold checkT
  rw [if_neg c1, if_pos (bad_at h0 h1 h)]
set_option maxHeartbeats 1000000 in
theorem tier_Check.calls (A0 : Option Addr) (c0 : Nat) (l0 : List S50) (r : Int) (w : World) (hr0 : Kd.C k50 w A0 l0.length l0) (hc0 : l0.length ≤ c0) (h : tier_Check.f l0 = some r) :
    Calls Try.prog 16 #[.slice A0 l0.length c0] w fun e w' => e = .returned (.int .i64 r) ∧ Below w.heap.size w w' := by
  have HR := Aside0.mk hr0
  have H := Aside0.mk (Option.some.inj h)
  clear hr0 h hc0
  by_cases c1 : 6 < l0.length
  · go_enter Try.func16, Try.ntmps16
    go_wp2
    go_ret
    exact ⟨reti (by rw [← H.out]; unfold checkT; rw [if_pos c1]), bel⟩
  · go_enter Try.func16, Try.ntmps16
    go_wp2
    go_loopw [10] (fun i wr => ∃ x : Int, 0 ≤ x ∧ x ≤ l0.length ∧ i = .int .i64 x ∧ Aside0 (Below w.heap.size w wr) ∧ Aside0 (∀ i : Int, 0 ≤ i → i < x → badT (rd_T50 l0 i) = false)) (fun i _ => l0.length - (intOf i).toNat)
    case atStart => exact ⟨0, by omega, by omega, rfl, ⟨bel⟩, ⟨fun i h1 h2 => by omega⟩⟩
    case round =>
      obtain ⟨x, k1, k2, rfl, hb, ha⟩ := hrel
      by_cases hlt : x < l0.length
      · obtain ⟨ad, rfl, hx0, hx1⟩ := at_T50 HR.out x k1 hlt
        have gx0 := keepc hb.out hx0
        have gx1 := keepc hb.out hx1
        clear hx0 hx1
        go_wp2
        all_goals first
          | (go_ret; exact ⟨reti (by rw [← H.out]; exact (check_bad c1 k1 hlt (by unfold badT; simp; omega)).symm), hb.out.alloc hb.out.size _⟩)
          | skip
        go_roundw
        case rel => exact ⟨x + 1, by omega, by omega, by go_num, ⟨hb.out.alloc hb.out.size _⟩, ⟨fun i h1 h2 => by
          by_cases hi : i = x
          · subst hi; unfold badT; simp; omega
          · exact ha.out i h1 (by omega)⟩⟩
        case measure => simp [intOf]; omega
      · have nb : l0.any badT = false := bad_none (fun i h1 h2 => ha.out i h1 (by omega))
        cases ba : ascB l0
        · have fin : checkT l0 = 10 := by unfold checkT; rw [if_neg c1, nb, ba]; simp
          have FIN := Aside0.mk fin
          clear fin nb
          go_wp2_with fail
          refine (ascending_calls _ _ _ _ (Kd.C_below HR.out hb.out) (by omega)).mono ?_
          rintro e w1 ⟨rfl, hb1⟩
          rw [ba]
          clear ba
          go_wp2
          go_ret
          exact ⟨reti (FIN.out.symm.trans H.out), bstep hb.out hb1⟩
        · by_cases hl : 0 < l0.length
          all_goals
            have BA := Aside0.mk ba
            have HL := Aside0.mk hl
            have NB := Aside0.mk nb
            clear nb ba hl
            go_wp2_with fail
            refine (ascending_calls _ _ _ _ (Kd.C_below HR.out hb.out) (by omega)).mono ?_
            rintro e w1 ⟨rfl, hb1⟩
            rw [BA.out]
          · have hd : decide (0 < l0.length) = true := decide_eq_true HL.out
            have hz : 0 < l0.length := HL.out
            obtain ⟨ad, rfl, hx0, hx1⟩ := at_T50 HR.out 0 (by omega) (by omega)
            rw [show (0 : Int).toNat * 2 = 0 from rfl, Addr.add_zero'] at hx0
            have gx0 := keepc hb1 (keepc hb.out hx0)
            clear hx0 hx1
            by_cases hq : (rd_T50 l0 0).f0 = 0
            all_goals
              have HQ := Aside0.mk hq
              clear hq
            · have q1 : ((rd_T50 l0 0).f0 != 0) = false := bne_eq_false_iff_eq.mpr HQ.out
              go_wp2
              repeat (go_quiet (fail); try go_wp2)
              go_ret
              refine ⟨reti ?_, by have hb2 := bstep hb.out hb1; repeat (first | exact hb2 | apply below_drew1 | apply pw_below_drewN)⟩
              rw [← H.out]
              unfold checkT
              have ne : l0 ≠ [] := fun e => by have := HL.out; rw [e] at this; exact absurd this (by simp)
              rw [if_neg c1, NB.out, BA.out]
              simp [ne, HQ.out]
            · have q1 : ((rd_T50 l0 0).f0 != 0) = true := bne_iff_ne.mpr HQ.out
              go_wp2
              repeat (go_quiet (fail); try go_wp2)
              go_ret
              refine ⟨reti ?_, by have hb2 := bstep hb.out hb1; repeat (first | exact hb2 | apply below_drew1 | apply pw_below_drewN)⟩
              rw [← H.out]
              unfold checkT
              have ne : l0 ≠ [] := fun e => by have := HL.out; rw [e] at this; exact absurd this (by simp)
              rw [if_neg c1, NB.out, BA.out]
              simp [ne, HQ.out]
          · have hd : decide (0 < l0.length) = false := decide_eq_false HL.out
            go_wp2
            repeat (go_quiet (fail); try go_wp2)
            go_ret
            refine ⟨reti ?_, (by have hb2 := bstep hb.out hb1; repeat (first | exact hb2 | apply below_drew1 | apply pw_below_drewN))⟩
            rw [← H.out]
            unfold checkT
            have : l0 = [] := List.length_eq_zero_iff.1 (by have := HL.out; omega)
            rw [if_neg c1, NB.out, BA.out]
            simp [this]
end Go.Proofs.Ytlmabdiodopidaa.G
