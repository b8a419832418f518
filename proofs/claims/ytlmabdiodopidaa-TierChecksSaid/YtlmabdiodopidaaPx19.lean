-- laid by wip/tools/pr.sh (a patched printer; Lean checks it)
import Derived.Test.YtlmabdiodopidaaPx0
import Derived.Test.YtlmabdiodopidaaPx5
import Derived.Test.YtlmabdiodopidaaLive14
import Derived.Test.YtlmabdiodopidaaTier
namespace Go.Proofs.Ytlmabdiodopidaa.P
open Go.Proofs.Ytlmabdiodopidaa.G
attribute [local go_sem high] un_not64 un_noti run_add64
open Go.RowKit Go.Proofs.YtlmabdiodopidaaW.PrintWords Go.Proofs.YtlmabdiodopidaaW.PrintLast Go.Proofs.YtlmabdiodopidaaW.PrintMore
attribute [local go_sem] max2_int min2_int max_two min_two max_three min_three max_four min_four   -- for this text's walks alone
set_option linter.unusedVariables false
set_option linter.unusedSimpArgs false

/-! ### corebanklaw14_TierChecks: function 3 -/
def corebanklaw14_TierChecks.f (k : Nat) (l0 : List (S50)) : Option (Bool) := if (l0.length : Int) > 100 then ((corebanklaw14_live.f).bind fun t206 => (some t206)) else ((tier_Check.f l0).bind fun t207 => ((corebankref14_Check.f k l0).bind fun t208 => (if t207 = t208 then ((corebanklaw14_live.f).bind fun t209 => (some t209)) else (some false))))
theorem corebanklaw14_TierChecks.mono : ∀ a0 k, LeO (corebanklaw14_TierChecks.f k a0) (corebanklaw14_TierChecks.f (k + 1) a0) := by
  intro a0 k
  unfold corebanklaw14_TierChecks.f
  repeat' first
      | (with_reducible exact corebankref14_Check.mono _ _)
      | (with_reducible exact LeO.refl _)
      | (with_reducible exact LeO.none _)
      | (with_reducible refine LeO.ite ?_ ?_)
      | (with_reducible refine LeO.bind ?_ (fun _ => ?_))
      | exact corebankref14_Check.mono _ _
      | exact LeO.none _
      | refine LeO.ite ?_ ?_
      | refine LeO.bind ?_ (fun _ => ?_)
set_option maxHeartbeats 8000000 in
set_option maxRecDepth 100000 in
theorem corebanklaw14_TierChecks.calls (k : Nat) (A0 : Option Addr) (c0 : Nat) (l0 : List (S50)) (r : Bool) (w : World) (hr0 : Kd.C k50 w A0 l0.length l0) (hc0 : l0.length ≤ c0) (hT : r = true) (h : corebanklaw14_TierChecks.f k l0 = some r) :
    Calls Try.prog 3 #[.slice A0 l0.length c0] w fun e w' => e = .returned (.bool r) ∧ Below w.heap.size w w' := by
  have HR0 := Aside0.mk hr0
  have HC0 := Aside0.mk hc0
  clear hr0 hc0
  have HB := Aside0.mk (Below.refl w.heap.size w)
  have HT := Aside0.mk hT
  clear hT
  have H : (if (l0.length : Int) > 100 then ((corebanklaw14_live.f).bind fun t206 => (some t206)) else ((tier_Check.f l0).bind fun t207 => ((corebankref14_Check.f k l0).bind fun t208 => (if t207 = t208 then ((corebanklaw14_live.f).bind fun t209 => (some t209)) else (some false))))) = some r := h
  clear h
  by_cases c2 : (l0.length : Int) > 100
  · rw [if_pos c2] at H
    have c2b0 : decide (100 < (l0.length : Int)) = true := decide_eq_true c2
    have c2b1 : decide (100 < l0.length) = true := decide_eq_true (by omega)
    clear c2
    replace H := Option.bind_eq_some_iff.mp H
    obtain ⟨t206, A30, H⟩ := H
    replace H : (some t206) = some r := H
    have A3 := Aside0.mk A30
    clear A30
    obtain rfl := Option.some.inj H
    go_enter Try.func3, Try.ntmps3
    go_wp2_with (first | (go_at_call 18; (with_reducible refine (corebanklaw14_live.calls  t206 _ A3.out).mono ?_); rintro e w4 ⟨rfl, hb⟩; have n0_ := Aside0.mk (below_step (by repeat (first | (with_reducible first | exact HB.out | apply below_alloc | apply pw_below_drewN | apply below_drew1) | exact HB.out)) hb); clear HB; have HB := n0_; clear n0_; (try clear hb); (try clear hb2); (try clear hk); (try clear hi)))
    go_ret
    exact ⟨by first | rfl | (simp [errW_none, errW_some] <;> rfl) | (simp [*, errW_none, errW_some] <;> rfl), by repeat (first | (with_reducible first | exact HB.out | apply below_alloc | apply pw_below_drewN | apply below_drew1) | exact HB.out)⟩
  · rw [if_neg c2] at H
    have c2b0 : decide (100 < (l0.length : Int)) = false := decide_eq_false c2
    have c2b1 : decide (100 < l0.length) = false := decide_eq_false (by omega)
    clear c2
    replace H := Option.bind_eq_some_iff.mp H
    obtain ⟨t207, A50, H⟩ := H
    replace H : ((corebankref14_Check.f k l0).bind fun t208 => (if t207 = t208 then ((corebanklaw14_live.f).bind fun t209 => (some t209)) else (some false))) = some r := H
    have A5 := Aside0.mk A50
    clear A50
    replace H := Option.bind_eq_some_iff.mp H
    obtain ⟨t208, A60, H⟩ := H
    replace H : (if t207 = t208 then ((corebanklaw14_live.f).bind fun t209 => (some t209)) else (some false)) = some r := H
    have A6 := Aside0.mk A60
    clear A60
    by_cases c7 : t207 = t208
    · rw [if_pos c7] at H
      have c7b0 : (t207 == t208) = true := beq_iff_eq.mpr c7
      have c7b1 : (t207 != t208) = false := bne_eq_false_iff_eq.mpr c7
      clear c7
      replace H := Option.bind_eq_some_iff.mp H
      obtain ⟨t209, A80, H⟩ := H
      replace H : (some t209) = some r := H
      have A8 := Aside0.mk A80
      clear A80
      obtain rfl := Option.some.inj H
      go_enter Try.func3, Try.ntmps3
      go_wp2_with (first | (go_at_call 16; (with_reducible refine (tier_Check.calls _ _ l0 t207 _ ?side1 ?side2 A5.out).mono ?_); (case side1 => repeat (first | exact HR0.out | (with_reducible refine Kd.C_alloc ?_ _) | (with_reducible refine Kd.C_drewN ?_ _) | (with_reducible refine Kd.C_drew ?_))); (case side2 => exact HC0.out); rintro e w9 ⟨rfl, hb⟩; have n0_ := Aside0.mk (below_step (by repeat (first | (with_reducible first | exact HB.out | apply below_alloc | apply pw_below_drewN | apply below_drew1) | exact HB.out)) hb); clear HB; have HB := n0_; clear n0_; (try clear hb); (try clear hb2); (try clear hk); (try clear hi)) | (go_at_call 17; (with_reducible refine (corebankref14_Check.calls k _ _ l0 t208 _ ?side1 ?side2 A6.out).mono ?_); (case side1 => repeat (first | exact (Kd.C_below HR0.out HB.out) | (with_reducible refine Kd.C_alloc ?_ _) | (with_reducible refine Kd.C_drewN ?_ _) | (with_reducible refine Kd.C_drew ?_))); (case side2 => exact HC0.out); rintro e w' ⟨rfl, ⟨nd, rfl⟩⟩) | (go_at_call 18; (with_reducible refine (corebanklaw14_live.calls  t209 _ A8.out).mono ?_); rintro e w10 ⟨rfl, hb⟩; have n0_ := Aside0.mk (below_step (by repeat (first | (with_reducible first | exact HB.out | apply below_alloc | apply pw_below_drewN | apply below_drew1) | exact HB.out)) hb); clear HB; have HB := n0_; clear n0_; (try clear hb); (try clear hb2); (try clear hk); (try clear hi)))
      go_ret
      exact ⟨by first | rfl | (simp [errW_none, errW_some] <;> rfl) | (simp [*, errW_none, errW_some] <;> rfl), by repeat (first | (with_reducible first | exact HB.out | apply below_alloc | apply pw_below_drewN | apply below_drew1) | exact HB.out)⟩
    · rw [if_neg c7] at H
      have c7b0 : (t207 == t208) = false := beq_eq_false_iff_ne.mpr c7
      have c7b1 : (t207 != t208) = true := bne_iff_ne.mpr c7
      exact absurd ((Option.some.inj H).trans HT.out) (by decide)

end Go.Proofs.Ytlmabdiodopidaa.P
