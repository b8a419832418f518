-- laid by wip/tools/pr.sh (a patched printer; Lean checks it)
import Derived.Test.YtlmabdiodopidaaSq
import Derived.Test.YtlmabdiodopidaaPx0
import Derived.Test.YtlmabdiodopidaaPx12
import Derived.Test.YtlmabdiodopidaaPx24
import Derived.Test.YtlmabdiodopidaaLive14
namespace Go.Proofs.Ytlmabdiodopidaa.P
open Go.Proofs.Ytlmabdiodopidaa.G
attribute [local go_sem high] un_not64 un_noti run_add64
open Go.RowKit Go.Proofs.YtlmabdiodopidaaW.PrintWords Go.Proofs.YtlmabdiodopidaaW.PrintLast Go.Proofs.YtlmabdiodopidaaW.PrintMore
attribute [local go_sem] max2_int min2_int max_two min_two max_three min_three max_four min_four   -- for this text's walks alone
set_option linter.unusedVariables false
set_option linter.unusedSimpArgs false

attribute [local go_sem high] eqA35
/-! ### corebanklaw14_TierGrains: function 6 -/
def corebanklaw14_TierGrains.f (k : Nat) (l0 : List (S43)) (a1 : Int) : Option (Bool) := if (l0.length : Int) > 100 then ((corebanklaw14_live.f).bind fun t349 => (some t349)) else ((tier_Grains.f k l0 a1).bind fun bt350 => ((corebankref14_Grains.f k l0 a1).bind fun bt354 => (if (bt350.1 == bt354.1 && (bt350.2.1 == bt354.2.1)) = true then (if bt350.2.2 = bt354.2.2 then ((corebanklaw14_live.f).bind fun t358 => (some t358)) else (some false)) else (some false))))
theorem corebanklaw14_TierGrains.mono : ∀ a0 a1 k, LeO (corebanklaw14_TierGrains.f k a0 a1) (corebanklaw14_TierGrains.f (k + 1) a0 a1) := by
  intro a0 a1 k
  unfold corebanklaw14_TierGrains.f
  repeat' first
      | (with_reducible exact corebankref14_Grains.mono _ _ _)
      | (with_reducible exact tier_Grains.mono _ _ _)
      | (with_reducible exact LeO.refl _)
      | (with_reducible exact LeO.none _)
      | (with_reducible refine LeO.ite ?_ ?_)
      | (with_reducible refine LeO.bind ?_ (fun _ => ?_))
      | exact corebankref14_Grains.mono _ _ _
      | exact tier_Grains.mono _ _ _
      | exact LeO.none _
      | refine LeO.ite ?_ ?_
      | refine LeO.bind ?_ (fun _ => ?_)
set_option maxHeartbeats 8000000 in
set_option maxRecDepth 100000 in
theorem corebanklaw14_TierGrains.calls (k : Nat) (A0 : Option Addr) (c0 : Nat) (l0 : List (S43)) (a1 : Int) (r : Bool) (w : World) (hr0 : Kd.C k43 w A0 l0.length l0) (hc0 : l0.length ≤ c0) (hT : r = true) (h : corebanklaw14_TierGrains.f k l0 a1 = some r) :
    Calls Try.prog 6 #[.slice A0 l0.length c0, .int .i64 a1] w fun e w' => e = .returned (.bool r) ∧ Below w.heap.size w w' := by
  have hu35 := Try.underlying35
  have HR0 := Aside0.mk hr0
  have HC0 := Aside0.mk hc0
  clear hr0 hc0
  have HB := Aside0.mk (Below.refl w.heap.size w)
  have HT := Aside0.mk hT
  clear hT
  have H : (if (l0.length : Int) > 100 then ((corebanklaw14_live.f).bind fun t349 => (some t349)) else ((tier_Grains.f k l0 a1).bind fun bt350 => ((corebankref14_Grains.f k l0 a1).bind fun bt354 => (if (bt350.1 == bt354.1 && (bt350.2.1 == bt354.2.1)) = true then (if bt350.2.2 = bt354.2.2 then ((corebanklaw14_live.f).bind fun t358 => (some t358)) else (some false)) else (some false))))) = some r := h
  clear h
  by_cases c3 : (l0.length : Int) > 100
  · rw [if_pos c3] at H
    have c3b0 : decide (100 < (l0.length : Int)) = true := decide_eq_true c3
    have c3b1 : decide (100 < l0.length) = true := decide_eq_true (by omega)
    clear c3
    replace H := Option.bind_eq_some_iff.mp H
    obtain ⟨t349, A40, H⟩ := H
    replace H : (some t349) = some r := H
    have A4 := Aside0.mk A40
    clear A40
    obtain rfl := Option.some.inj H
    go_enter Try.func6, Try.ntmps6
    go_wp2_with (first | ((with_reducible refine gate_callee (f := 18) rfl ?_); refine goesL_ (some 12) rfl rfl Try.func18 (by kernel_rfl) rfl #[] rfl zm ?_; (with_reducible refine (corebanklaw14_live.calls  t349 _ A4.out).mono ?_); rintro e w5 ⟨rfl, hb⟩; refine ⟨_, rfl, ?_⟩; replace HB := bs HB hb; (try clear hb); (try clear hb2); (try clear hk); (try clear hi)))
    go_ret
    exact ⟨by first | rfl | (simp [errW_none, errW_some] <;> rfl) | (simp [*, errW_none, errW_some] <;> rfl), hq HB⟩
  · rw [if_neg c3] at H
    have c3b0 : decide (100 < (l0.length : Int)) = false := decide_eq_false c3
    have c3b1 : decide (100 < l0.length) = false := decide_eq_false (by omega)
    clear c3
    replace H := Option.bind_eq_some_iff.mp H
    obtain ⟨⟨t350, t351, t352⟩, A60, H⟩ := H
    replace H : ((corebankref14_Grains.f k l0 a1).bind fun bt354 => (if (t350 == bt354.1 && (t351 == bt354.2.1)) = true then (if t352 = bt354.2.2 then ((corebanklaw14_live.f).bind fun t358 => (some t358)) else (some false)) else (some false))) = some r := H
    have A6 := Aside0.mk A60
    clear A60
    replace H := Option.bind_eq_some_iff.mp H
    obtain ⟨⟨t354, t355, t356⟩, A70, H⟩ := H
    replace H : (if (t350 == t354 && (t351 == t355)) = true then (if t352 = t356 then ((corebanklaw14_live.f).bind fun t358 => (some t358)) else (some false)) else (some false)) = some r := H
    have A7 := Aside0.mk A70
    clear A70
    by_cases c8 : (t350 == t354 && (t351 == t355)) = true
    · rw [if_pos c8] at H
      have c8b0 : (t350 == t354 && (t351 == t355)) = true := c8
      (try (have c8b1 : decide (t350 = t354 && (t351 == t355)) = true := by simpa using c8))
      (try (have c8b2 : (t350 == t354 && (t351 == t355)) = true := by simpa using c8))
      clear c8
      by_cases c9 : t352 = t356
      · rw [if_pos c9] at H
        have c9b0 : (t352 == t356) = true := beq_iff_eq.mpr c9
        have c9b1 : (t352 != t356) = false := bne_eq_false_iff_eq.mpr c9
        clear c9
        replace H := Option.bind_eq_some_iff.mp H
        obtain ⟨t358, A100, H⟩ := H
        replace H : (some t358) = some r := H
        have A10 := Aside0.mk A100
        clear A100
        obtain rfl := Option.some.inj H
        go_enter Try.func6, Try.ntmps6
        go_wp2_with (first | ((with_reducible refine gate_callee (f := 24) rfl ?_); refine goesL_ (some 16) rfl rfl Try.func24 (by kernel_rfl) rfl #[.slice A0 l0.length c0, .int .i64 a1] rfl zm ?_; (with_reducible refine (tier_Grains.calls k _ _ l0 a1 t350 t351 t352 _ ?side1 ?side2 A6.out).mono ?_); (case side1 => repeat (first | exact HR0.out | (with_reducible refine Kd.C_alloc ?_ _) | (with_reducible refine Kd.C_drewN ?_ _) | (with_reducible refine Kd.C_drew ?_))); (case side2 => exact HC0.out); rintro e w11 ⟨rfl, hb⟩; refine ⟨_, rfl, ?_⟩; replace HB := bs HB hb; (try clear hb); (try clear hb2); (try clear hk); (try clear hi)) | ((with_reducible refine gate_dst (N := 5) rfl ?_); refine box_event ?hg (N := 5) ?hd (cs := #[.int .i64 0, .int .u64 0]) (t := 35) ?hr ?_; (case hd => rfl); (case hg => rfl); (case hr => first | (go_simp; done) | (go_simp; rfl)); intro gb353 hg w12 hbox hb; have BK353 := Aside0.mk (hbox); have GW353 := ge HB hg; have GE353 := ge HB hg; replace HB := bs HB hb; clear hb hbox hg; obtain ⟨hcz13_0, hcz13_1, hfz13_0, hfz13_1⟩ := cz2 BK353) | ((with_reducible refine gate_callee (f := 25) rfl ?_); refine goesL_ (some 22) rfl rfl Try.func25 (by kernel_rfl) rfl #[.slice A0 l0.length c0, .int .i64 a1] rfl zm ?_; (with_reducible refine (corebankref14_Grains.calls k _ _ l0 a1 t354 t355 t356 _ ?side1 ?side2 A7.out).mono ?_); (case side1 => exact Kd.C_below HR0.out (hq HB)); (case side2 => exact HC0.out); rintro e w14 ⟨rfl, hb⟩; refine ⟨_, rfl, ?_⟩; replace BK353 := bpb BK353 hb #[.int .i64 t350, .int .u64 t351]; replace HB := bs HB hb; (try clear hb); (try clear hb2); (try clear hk); (try clear hi)) | ((with_reducible refine gate_dst (N := 7) rfl ?_); refine box_event ?hg (N := 7) ?hd (cs := #[.int .i64 0, .int .u64 0]) (t := 35) ?hr ?_; (case hd => rfl); (case hg => rfl); (case hr => first | (go_simp; done) | (go_simp; rfl)); intro gb357 hg w15 hbox hb; have BK357 := Aside0.mk (hbox); have GW357 := ge HB hg; have GE357 := ge HB hg; have NB353_357 := nl BK353 hg; have NB357_353 := ng NB353_357; replace BK353 := bb BK353 hb; replace HB := bs HB hb; clear hb hbox hg; have hnb16 := NB357_353.out; have hnc16 := NB353_357.out; obtain ⟨hcz17_0, hcz17_1, hfz17_0, hfz17_1⟩ := cz2 BK357; obtain ⟨hcz18_0, hcz18_1, hfz18_0, hfz18_1⟩ := cz2 BK353) | (go_at_call 18; (with_reducible refine (corebanklaw14_live.calls  t358 _ A10.out).mono ?_); rintro e w19 ⟨rfl, hb⟩; replace BK353 := bb BK353 hb; replace BK357 := bpb BK357 hb #[.int .i64 t354, .int .u64 t355]; replace HB := bs HB hb; (try clear hb); (try clear hb2); (try clear hk); (try clear hi)))
        go_ret
        exact ⟨by first | rfl | (simp [errW_none, errW_some] <;> rfl) | (simp [*, errW_none, errW_some] <;> rfl), hq HB⟩
      · rw [if_neg c9] at H
        have c9b0 : (t352 == t356) = false := beq_eq_false_iff_ne.mpr c9
        have c9b1 : (t352 != t356) = true := bne_iff_ne.mpr c9
        exact absurd ((Option.some.inj H).trans HT.out) (by decide)
    · rw [if_neg c8] at H
      have c8b0 : (t350 == t354 && (t351 == t355)) = false := by simpa using c8
      (try (have c8b1 : decide (t350 = t354 && (t351 == t355)) = false := by simpa using c8))
      (try (have c8b2 : (t350 == t354 && (t351 == t355)) = false := by simpa using c8))
      (try (have c8b3 : ¬ (t350 = t354 && (t351 == t355)) := by simpa using c8))
      clear c8
      exact absurd ((Option.some.inj H).trans HT.out) (by decide)

end Go.Proofs.Ytlmabdiodopidaa.P
