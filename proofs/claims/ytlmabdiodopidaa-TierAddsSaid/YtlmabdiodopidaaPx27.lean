-- laid by wip/tools/pr.sh (a patched printer; Lean checks it)
import Derived.Test.YtlmabdiodopidaaSq
import Derived.Test.YtlmabdiodopidaaPx0
import Derived.Test.YtlmabdiodopidaaPx12
import Derived.Test.YtlmabdiodopidaaPx21
import Derived.Test.YtlmabdiodopidaaPx24
import Derived.Test.YtlmabdiodopidaaLive14
namespace Go.Proofs.Ytlmabdiodopidaa.P
open Go.Proofs.Ytlmabdiodopidaa.G
attribute [local go_sem high] un_not64 un_noti run_add64
open Go.RowKit Go.Proofs.YtlmabdiodopidaaW.PrintWords Go.Proofs.YtlmabdiodopidaaW.PrintLast Go.Proofs.YtlmabdiodopidaaW.PrintMore
attribute [local go_sem] max2_int min2_int max_two min_two max_three min_three max_four min_four   -- for this text's walks alone
set_option linter.unusedVariables false
set_option linter.unusedSimpArgs false

attribute [local go_sem high] eqA35
/-! ### corebanklaw14_TierAdds: function 8 -/
def corebanklaw14_TierAdds.f (k : Nat) (l0 : List (S43)) (a1 : Int) (a2 : Int) : Option (Bool) := (tier_Grains.f k l0 (wrap64 (Int.tmod a1 1073741824))).bind fun bt388 => ((tier_Grains.f k l0 (wrap64 (Int.tmod a2 1073741824))).bind fun bt392 => ((tier_Grains.f k l0 (wrap64 ((wrap64 (Int.tmod a1 1073741824)) + (wrap64 (Int.tmod a2 1073741824))))).bind fun bt396 => (if bt388.2.2 = 0 then ((corebankref01_Add.f bt388.1 bt388.2.1 bt392.1 bt392.2.1).bind fun bt400 => (if bt392.2.2 = 0 then (if bt396.2.2 = 0 then (if bt400.2.2 = 0 then (if (bt400.1 == bt396.1 && (bt400.2.1 == bt396.2.1)) = true then ((corebanklaw14_live.f).bind fun t404 => (some t404)) else (some false)) else (some false)) else (some false)) else (some false))) else ((corebankref14_Grains.f k l0 (wrap64 (Int.tmod a1 1073741824))).bind fun bt405 => (if bt388.2.2 = bt392.2.2 then (if bt388.2.2 = bt396.2.2 then (if bt405.2.2 = bt388.2.2 then ((corebanklaw14_live.f).bind fun t409 => (some t409)) else (some false)) else (some false)) else (some false))))))
theorem corebanklaw14_TierAdds.mono : ∀ a0 a1 a2 k, LeO (corebanklaw14_TierAdds.f k a0 a1 a2) (corebanklaw14_TierAdds.f (k + 1) a0 a1 a2) := by
  intro a0 a1 a2 k
  unfold corebanklaw14_TierAdds.f
  repeat' first
      | (with_reducible exact corebankref14_Grains.mono _ _ _)
      | (with_reducible exact tier_Grains.mono _ _ _)
      | (with_reducible exact LeO.refl _)
      | (with_reducible exact LeO.none _)
      | (with_reducible refine LeO.ite ?_ ?_)
      | (with_reducible refine LeO.bind ?_ (fun _ => ?_))
      | exact corebankref14_Grains.mono _ _ _
      | exact tier_Grains.mono _ _ _
      | exact LeO.none _
      | refine LeO.ite ?_ ?_
      | refine LeO.bind ?_ (fun _ => ?_)
set_option maxHeartbeats 8000000 in
set_option maxRecDepth 100000 in
theorem corebanklaw14_TierAdds.calls (k : Nat) (A0 : Option Addr) (c0 : Nat) (l0 : List (S43)) (a1 : Int) (a2 : Int) (r : Bool) (w : World) (hr0 : Kd.C k43 w A0 l0.length l0) (hc0 : l0.length ≤ c0) (hT : r = true) (h : corebanklaw14_TierAdds.f k l0 a1 a2 = some r) :
    Calls Try.prog 8 #[.slice A0 l0.length c0, .int .u32 a1, .int .u32 a2] w fun e w' => e = .returned (.bool r) ∧ Below w.heap.size w w' := by
  have hu35 := Try.underlying35
  have HR0 := Aside0.mk hr0
  have HC0 := Aside0.mk hc0
  clear hr0 hc0
  have HB := Aside0.mk (Below.refl w.heap.size w)
  have HT := Aside0.mk hT
  clear hT
  have H : ((tier_Grains.f k l0 (wrap64 (Int.tmod a1 1073741824))).bind fun bt388 => ((tier_Grains.f k l0 (wrap64 (Int.tmod a2 1073741824))).bind fun bt392 => ((tier_Grains.f k l0 (wrap64 ((wrap64 (Int.tmod a1 1073741824)) + (wrap64 (Int.tmod a2 1073741824))))).bind fun bt396 => (if bt388.2.2 = 0 then ((corebankref01_Add.f bt388.1 bt388.2.1 bt392.1 bt392.2.1).bind fun bt400 => (if bt392.2.2 = 0 then (if bt396.2.2 = 0 then (if bt400.2.2 = 0 then (if (bt400.1 == bt396.1 && (bt400.2.1 == bt396.2.1)) = true then ((corebanklaw14_live.f).bind fun t404 => (some t404)) else (some false)) else (some false)) else (some false)) else (some false))) else ((corebankref14_Grains.f k l0 (wrap64 (Int.tmod a1 1073741824))).bind fun bt405 => (if bt388.2.2 = bt392.2.2 then (if bt388.2.2 = bt396.2.2 then (if bt405.2.2 = bt388.2.2 then ((corebanklaw14_live.f).bind fun t409 => (some t409)) else (some false)) else (some false)) else (some false))))))) = some r := h
  clear h
  replace H := Option.bind_eq_some_iff.mp H
  obtain ⟨⟨t388, t389, t390⟩, A40, H⟩ := H
  replace H : ((tier_Grains.f k l0 (wrap64 (Int.tmod a2 1073741824))).bind fun bt392 => ((tier_Grains.f k l0 (wrap64 ((wrap64 (Int.tmod a1 1073741824)) + (wrap64 (Int.tmod a2 1073741824))))).bind fun bt396 => (if t390 = 0 then ((corebankref01_Add.f t388 t389 bt392.1 bt392.2.1).bind fun bt400 => (if bt392.2.2 = 0 then (if bt396.2.2 = 0 then (if bt400.2.2 = 0 then (if (bt400.1 == bt396.1 && (bt400.2.1 == bt396.2.1)) = true then ((corebanklaw14_live.f).bind fun t404 => (some t404)) else (some false)) else (some false)) else (some false)) else (some false))) else ((corebankref14_Grains.f k l0 (wrap64 (Int.tmod a1 1073741824))).bind fun bt405 => (if t390 = bt392.2.2 then (if t390 = bt396.2.2 then (if bt405.2.2 = t390 then ((corebanklaw14_live.f).bind fun t409 => (some t409)) else (some false)) else (some false)) else (some false)))))) = some r := H
  have A4 := Aside0.mk A40
  clear A40
  replace H := Option.bind_eq_some_iff.mp H
  obtain ⟨⟨t392, t393, t394⟩, A50, H⟩ := H
  replace H : ((tier_Grains.f k l0 (wrap64 ((wrap64 (Int.tmod a1 1073741824)) + (wrap64 (Int.tmod a2 1073741824))))).bind fun bt396 => (if t390 = 0 then ((corebankref01_Add.f t388 t389 t392 t393).bind fun bt400 => (if t394 = 0 then (if bt396.2.2 = 0 then (if bt400.2.2 = 0 then (if (bt400.1 == bt396.1 && (bt400.2.1 == bt396.2.1)) = true then ((corebanklaw14_live.f).bind fun t404 => (some t404)) else (some false)) else (some false)) else (some false)) else (some false))) else ((corebankref14_Grains.f k l0 (wrap64 (Int.tmod a1 1073741824))).bind fun bt405 => (if t390 = t394 then (if t390 = bt396.2.2 then (if bt405.2.2 = t390 then ((corebanklaw14_live.f).bind fun t409 => (some t409)) else (some false)) else (some false)) else (some false))))) = some r := H
  have A5 := Aside0.mk A50
  clear A50
  replace H := Option.bind_eq_some_iff.mp H
  obtain ⟨⟨t396, t397, t398⟩, A60, H⟩ := H
  replace H : (if t390 = 0 then ((corebankref01_Add.f t388 t389 t392 t393).bind fun bt400 => (if t394 = 0 then (if t398 = 0 then (if bt400.2.2 = 0 then (if (bt400.1 == t396 && (bt400.2.1 == t397)) = true then ((corebanklaw14_live.f).bind fun t404 => (some t404)) else (some false)) else (some false)) else (some false)) else (some false))) else ((corebankref14_Grains.f k l0 (wrap64 (Int.tmod a1 1073741824))).bind fun bt405 => (if t390 = t394 then (if t390 = t398 then (if bt405.2.2 = t390 then ((corebanklaw14_live.f).bind fun t409 => (some t409)) else (some false)) else (some false)) else (some false)))) = some r := H
  have A6 := Aside0.mk A60
  clear A60
  by_cases c7 : t390 = 0
  · rw [if_pos c7] at H
    have c7b0 : (t390 == 0) = true := beq_iff_eq.mpr c7
    have c7b1 : (t390 != 0) = false := bne_eq_false_iff_eq.mpr c7
    clear c7
    replace H := Option.bind_eq_some_iff.mp H
    obtain ⟨⟨t400, t401, t402⟩, A80, H⟩ := H
    replace H : (if t394 = 0 then (if t398 = 0 then (if t402 = 0 then (if (t400 == t396 && (t401 == t397)) = true then ((corebanklaw14_live.f).bind fun t404 => (some t404)) else (some false)) else (some false)) else (some false)) else (some false)) = some r := H
    have A8 := Aside0.mk A80
    clear A80
    by_cases c9 : t394 = 0
    · rw [if_pos c9] at H
      have c9b0 : (t394 == 0) = true := beq_iff_eq.mpr c9
      have c9b1 : (t394 != 0) = false := bne_eq_false_iff_eq.mpr c9
      clear c9
      by_cases c10 : t398 = 0
      · rw [if_pos c10] at H
        have c10b0 : (t398 == 0) = true := beq_iff_eq.mpr c10
        have c10b1 : (t398 != 0) = false := bne_eq_false_iff_eq.mpr c10
        clear c10
        by_cases c11 : t402 = 0
        · rw [if_pos c11] at H
          have c11b0 : (t402 == 0) = true := beq_iff_eq.mpr c11
          have c11b1 : (t402 != 0) = false := bne_eq_false_iff_eq.mpr c11
          clear c11
          by_cases c12 : (t400 == t396 && (t401 == t397)) = true
          · rw [if_pos c12] at H
            have c12b0 : (t400 == t396 && (t401 == t397)) = true := c12
            (try (have c12b1 : decide (t400 = t396 && (t401 == t397)) = true := by simpa using c12))
            (try (have c12b2 : (t400 == t396 && (t401 == t397)) = true := by simpa using c12))
            clear c12
            replace H := Option.bind_eq_some_iff.mp H
            obtain ⟨t404, A130, H⟩ := H
            replace H : (some t404) = some r := H
            have A13 := Aside0.mk A130
            clear A130
            obtain rfl := Option.some.inj H
            go_enter Try.func8, Try.ntmps8
            go_wp2_with (first | ((with_reducible refine gate_callee (f := 24) rfl ?_); refine goesL_ (some 28) rfl rfl Try.func24 (by kernel_rfl) rfl #[.slice A0 l0.length c0, .int .i64 (wrap64 (Int.tmod a1 1073741824))] rfl zm ?_; (with_reducible refine (tier_Grains.calls k _ _ l0 (wrap64 (Int.tmod a1 1073741824)) t388 t389 t390 _ ?side1 ?side2 A4.out).mono ?_); (case side1 => repeat (first | exact HR0.out | (with_reducible refine Kd.C_alloc ?_ _) | (with_reducible refine Kd.C_drewN ?_ _) | (with_reducible refine Kd.C_drew ?_))); (case side2 => exact HC0.out); rintro e w14 ⟨rfl, hb⟩; refine ⟨_, rfl, ?_⟩; replace HB := bs HB hb; (try clear hb); (try clear hb2); (try clear hk); (try clear hi)) | ((with_reducible refine gate_dst (N := 9) rfl ?_); refine box_event ?hg (N := 9) ?hd (cs := #[.int .i64 0, .int .u64 0]) (t := 35) ?hr ?_; (case hd => rfl); (case hg => rfl); (case hr => first | (go_simp; done) | (go_simp; rfl)); intro gb391 hg w15 hbox hb; have BK391 := Aside0.mk (hbox); have GW391 := ge HB hg; have GE391 := ge HB hg; replace HB := bs HB hb; clear hb hbox hg; obtain ⟨hcz16_0, hcz16_1, hfz16_0, hfz16_1⟩ := cz2 BK391) | ((with_reducible refine gate_callee (f := 24) rfl ?_); refine goesL_ (some 34) rfl rfl Try.func24 (by kernel_rfl) rfl #[.slice A0 l0.length c0, .int .i64 (wrap64 (Int.tmod a2 1073741824))] rfl zm ?_; (with_reducible refine (tier_Grains.calls k _ _ l0 (wrap64 (Int.tmod a2 1073741824)) t392 t393 t394 _ ?side1 ?side2 A5.out).mono ?_); (case side1 => exact Kd.C_below HR0.out (hq HB)); (case side2 => exact HC0.out); rintro e w17 ⟨rfl, hb⟩; refine ⟨_, rfl, ?_⟩; replace BK391 := bpb BK391 hb #[.int .i64 t388, .int .u64 t389]; replace HB := bs HB hb; (try clear hb); (try clear hb2); (try clear hk); (try clear hi)) | ((with_reducible refine gate_dst (N := 11) rfl ?_); refine box_event ?hg (N := 11) ?hd (cs := #[.int .i64 0, .int .u64 0]) (t := 35) ?hr ?_; (case hd => rfl); (case hg => rfl); (case hr => first | (go_simp; done) | (go_simp; rfl)); intro gb395 hg w18 hbox hb; have BK395 := Aside0.mk (hbox); have GW395 := ge HB hg; have GE395 := ge HB hg; have NB391_395 := nl BK391 hg; have NB395_391 := ng NB391_395; replace BK391 := bb BK391 hb; replace HB := bs HB hb; clear hb hbox hg; have hnb19 := NB395_391.out; have hnc19 := NB391_395.out; obtain ⟨hcz20_0, hcz20_1, hfz20_0, hfz20_1⟩ := cz2 BK395) | ((with_reducible refine gate_callee (f := 24) rfl ?_); refine goesL_ (some 42) rfl rfl Try.func24 (by kernel_rfl) rfl #[.slice A0 l0.length c0, .int .i64 (wrap64 ((wrap64 (Int.tmod a1 1073741824)) + (wrap64 (Int.tmod a2 1073741824))))] rfl zm ?_; (with_reducible refine (tier_Grains.calls k _ _ l0 (wrap64 ((wrap64 (Int.tmod a1 1073741824)) + (wrap64 (Int.tmod a2 1073741824)))) t396 t397 t398 _ ?side1 ?side2 A6.out).mono ?_); (case side1 => exact Kd.C_below HR0.out (hq HB)); (case side2 => exact HC0.out); rintro e w21 ⟨rfl, hb⟩; refine ⟨_, rfl, ?_⟩; replace BK391 := bb BK391 hb; replace BK395 := bpb BK395 hb #[.int .i64 t392, .int .u64 t393]; replace HB := bs HB hb; (try clear hb); (try clear hb2); (try clear hk); (try clear hi)) | ((with_reducible refine gate_dst (N := 13) rfl ?_); refine box_event ?hg (N := 13) ?hd (cs := #[.int .i64 0, .int .u64 0]) (t := 35) ?hr ?_; (case hd => rfl); (case hg => rfl); (case hr => first | (go_simp; done) | (go_simp; rfl)); intro gb399 hg w22 hbox hb; have BK399 := Aside0.mk (hbox); have GW399 := ge HB hg; have GE399 := ge HB hg; have NB391_399 := nl BK391 hg; have NB399_391 := ng NB391_399; have NB395_399 := nl BK395 hg; have NB399_395 := ng NB395_399; replace BK391 := bb BK391 hb; replace BK395 := bb BK395 hb; replace HB := bs HB hb; clear hb hbox hg; have hnb23 := NB399_391.out; have hnc23 := NB391_399.out; have hnb24 := NB399_395.out; have hnc24 := NB395_399.out; obtain ⟨hcz25_0, hcz25_1, hfz25_0, hfz25_1⟩ := cz2 BK399; obtain ⟨hcz26_0, hcz26_1, hfz26_0, hfz26_1⟩ := cz2 BK391; obtain ⟨hcz27_0, hcz27_1, hfz27_0, hfz27_1⟩ := cz2 BK395) | ((with_reducible refine gate_callee (f := 28) rfl ?_); refine goesL_ (some 72) rfl rfl Try.func28 (by kernel_rfl) rfl #[.agg #[.int .i64 t388, .int .u64 t389], .agg #[.int .i64 t392, .int .u64 t393]] rfl zm ?_; (with_reducible refine (corebankref01_Add.calls t388 t389 t392 t393 t400 t401 t402 _ A8.out).mono ?_); rintro e w28 ⟨rfl, hb⟩; refine ⟨_, rfl, ?_⟩; replace BK391 := bb BK391 hb; replace BK395 := bb BK395 hb; replace BK399 := bpb BK399 hb #[.int .i64 t396, .int .u64 t397]; replace HB := bs HB hb; (try clear hb); (try clear hb2); (try clear hk); (try clear hi)) | ((with_reducible refine gate_dst (N := 17) rfl ?_); refine box_event ?hg (N := 17) ?hd (cs := #[.int .i64 0, .int .u64 0]) (t := 35) ?hr ?_; (case hd => rfl); (case hg => rfl); (case hr => first | (go_simp; done) | (go_simp; rfl)); intro gb403 hg w29 hbox hb; have BK403 := Aside0.mk (hbox); have GW403 := ge HB hg; have GE403 := ge HB hg; have NB391_403 := nl BK391 hg; have NB403_391 := ng NB391_403; have NB395_403 := nl BK395 hg; have NB403_395 := ng NB395_403; have NB399_403 := nl BK399 hg; have NB403_399 := ng NB399_403; replace BK391 := bb BK391 hb; replace BK395 := bb BK395 hb; replace BK399 := bb BK399 hb; replace HB := bs HB hb; clear hb hbox hg; have hnb30 := NB403_391.out; have hnc30 := NB391_403.out; have hnb31 := NB403_395.out; have hnc31 := NB395_403.out; have hnb32 := NB403_399.out; have hnc32 := NB399_403.out; obtain ⟨hcz33_0, hcz33_1, hfz33_0, hfz33_1⟩ := cz2 BK403; obtain ⟨hcz34_0, hcz34_1, hfz34_0, hfz34_1⟩ := cz2 BK399) | (go_at_call 18; (with_reducible refine (corebanklaw14_live.calls  t404 _ A13.out).mono ?_); rintro e w35 ⟨rfl, hb⟩; replace BK391 := bb BK391 hb; replace BK395 := bb BK395 hb; replace BK399 := bb BK399 hb; replace BK403 := bpb BK403 hb #[.int .i64 t400, .int .u64 t401]; replace HB := bs HB hb; (try clear hb); (try clear hb2); (try clear hk); (try clear hi)))
            go_ret
            exact ⟨by first | rfl | (simp [errW_none, errW_some] <;> rfl) | (simp [*, errW_none, errW_some] <;> rfl), hq HB⟩
          · rw [if_neg c12] at H
            have c12b0 : (t400 == t396 && (t401 == t397)) = false := by simpa using c12
            (try (have c12b1 : decide (t400 = t396 && (t401 == t397)) = false := by simpa using c12))
            (try (have c12b2 : (t400 == t396 && (t401 == t397)) = false := by simpa using c12))
            (try (have c12b3 : ¬ (t400 = t396 && (t401 == t397)) := by simpa using c12))
            clear c12
            exact absurd ((Option.some.inj H).trans HT.out) (by decide)
        · rw [if_neg c11] at H
          have c11b0 : (t402 == 0) = false := beq_eq_false_iff_ne.mpr c11
          have c11b1 : (t402 != 0) = true := bne_iff_ne.mpr c11
          exact absurd ((Option.some.inj H).trans HT.out) (by decide)
      · rw [if_neg c10] at H
        have c10b0 : (t398 == 0) = false := beq_eq_false_iff_ne.mpr c10
        have c10b1 : (t398 != 0) = true := bne_iff_ne.mpr c10
        exact absurd ((Option.some.inj H).trans HT.out) (by decide)
    · rw [if_neg c9] at H
      have c9b0 : (t394 == 0) = false := beq_eq_false_iff_ne.mpr c9
      have c9b1 : (t394 != 0) = true := bne_iff_ne.mpr c9
      exact absurd ((Option.some.inj H).trans HT.out) (by decide)
  · rw [if_neg c7] at H
    have c7b0 : (t390 == 0) = false := beq_eq_false_iff_ne.mpr c7
    have c7b1 : (t390 != 0) = true := bne_iff_ne.mpr c7
    replace H := Option.bind_eq_some_iff.mp H
    obtain ⟨⟨t405, t406, t407⟩, A360, H⟩ := H
    replace H : (if t390 = t394 then (if t390 = t398 then (if t407 = t390 then ((corebanklaw14_live.f).bind fun t409 => (some t409)) else (some false)) else (some false)) else (some false)) = some r := H
    have A36 := Aside0.mk A360
    clear A360
    by_cases c37 : t390 = t394
    · rw [if_pos c37] at H
      have c37b0 : (t390 == t394) = true := beq_iff_eq.mpr c37
      have c37b1 : (t390 != t394) = false := bne_eq_false_iff_eq.mpr c37
      clear c37
      by_cases c38 : t390 = t398
      · rw [if_pos c38] at H
        have c38b0 : (t390 == t398) = true := beq_iff_eq.mpr c38
        have c38b1 : (t390 != t398) = false := bne_eq_false_iff_eq.mpr c38
        clear c38
        by_cases c39 : t407 = t390
        · rw [if_pos c39] at H
          have c39b0 : (t407 == t390) = true := beq_iff_eq.mpr c39
          have c39b1 : (t407 != t390) = false := bne_eq_false_iff_eq.mpr c39
          clear c39
          replace H := Option.bind_eq_some_iff.mp H
          obtain ⟨t409, A400, H⟩ := H
          replace H : (some t409) = some r := H
          have A40 := Aside0.mk A400
          clear A400
          obtain rfl := Option.some.inj H
          go_enter Try.func8, Try.ntmps8
          go_wp2_with (first | ((with_reducible refine gate_callee (f := 24) rfl ?_); refine goesL_ (some 28) rfl rfl Try.func24 (by kernel_rfl) rfl #[.slice A0 l0.length c0, .int .i64 (wrap64 (Int.tmod a1 1073741824))] rfl zm ?_; (with_reducible refine (tier_Grains.calls k _ _ l0 (wrap64 (Int.tmod a1 1073741824)) t388 t389 t390 _ ?side1 ?side2 A4.out).mono ?_); (case side1 => repeat (first | exact HR0.out | (with_reducible refine Kd.C_alloc ?_ _) | (with_reducible refine Kd.C_drewN ?_ _) | (with_reducible refine Kd.C_drew ?_))); (case side2 => exact HC0.out); rintro e w41 ⟨rfl, hb⟩; refine ⟨_, rfl, ?_⟩; replace HB := bs HB hb; (try clear hb); (try clear hb2); (try clear hk); (try clear hi)) | ((with_reducible refine gate_dst (N := 9) rfl ?_); refine box_event ?hg (N := 9) ?hd (cs := #[.int .i64 0, .int .u64 0]) (t := 35) ?hr ?_; (case hd => rfl); (case hg => rfl); (case hr => first | (go_simp; done) | (go_simp; rfl)); intro gb391 hg w42 hbox hb; have BK391 := Aside0.mk (hbox); have GW391 := ge HB hg; have GE391 := ge HB hg; replace HB := bs HB hb; clear hb hbox hg; obtain ⟨hcz43_0, hcz43_1, hfz43_0, hfz43_1⟩ := cz2 BK391) | ((with_reducible refine gate_callee (f := 24) rfl ?_); refine goesL_ (some 34) rfl rfl Try.func24 (by kernel_rfl) rfl #[.slice A0 l0.length c0, .int .i64 (wrap64 (Int.tmod a2 1073741824))] rfl zm ?_; (with_reducible refine (tier_Grains.calls k _ _ l0 (wrap64 (Int.tmod a2 1073741824)) t392 t393 t394 _ ?side1 ?side2 A5.out).mono ?_); (case side1 => exact Kd.C_below HR0.out (hq HB)); (case side2 => exact HC0.out); rintro e w44 ⟨rfl, hb⟩; refine ⟨_, rfl, ?_⟩; replace BK391 := bpb BK391 hb #[.int .i64 t388, .int .u64 t389]; replace HB := bs HB hb; (try clear hb); (try clear hb2); (try clear hk); (try clear hi)) | ((with_reducible refine gate_dst (N := 11) rfl ?_); refine box_event ?hg (N := 11) ?hd (cs := #[.int .i64 0, .int .u64 0]) (t := 35) ?hr ?_; (case hd => rfl); (case hg => rfl); (case hr => first | (go_simp; done) | (go_simp; rfl)); intro gb395 hg w45 hbox hb; have BK395 := Aside0.mk (hbox); have GW395 := ge HB hg; have GE395 := ge HB hg; have NB391_395 := nl BK391 hg; have NB395_391 := ng NB391_395; replace BK391 := bb BK391 hb; replace HB := bs HB hb; clear hb hbox hg; have hnb46 := NB395_391.out; have hnc46 := NB391_395.out; obtain ⟨hcz47_0, hcz47_1, hfz47_0, hfz47_1⟩ := cz2 BK395) | ((with_reducible refine gate_callee (f := 24) rfl ?_); refine goesL_ (some 42) rfl rfl Try.func24 (by kernel_rfl) rfl #[.slice A0 l0.length c0, .int .i64 (wrap64 ((wrap64 (Int.tmod a1 1073741824)) + (wrap64 (Int.tmod a2 1073741824))))] rfl zm ?_; (with_reducible refine (tier_Grains.calls k _ _ l0 (wrap64 ((wrap64 (Int.tmod a1 1073741824)) + (wrap64 (Int.tmod a2 1073741824)))) t396 t397 t398 _ ?side1 ?side2 A6.out).mono ?_); (case side1 => exact Kd.C_below HR0.out (hq HB)); (case side2 => exact HC0.out); rintro e w48 ⟨rfl, hb⟩; refine ⟨_, rfl, ?_⟩; replace BK391 := bb BK391 hb; replace BK395 := bpb BK395 hb #[.int .i64 t392, .int .u64 t393]; replace HB := bs HB hb; (try clear hb); (try clear hb2); (try clear hk); (try clear hi)) | ((with_reducible refine gate_dst (N := 13) rfl ?_); refine box_event ?hg (N := 13) ?hd (cs := #[.int .i64 0, .int .u64 0]) (t := 35) ?hr ?_; (case hd => rfl); (case hg => rfl); (case hr => first | (go_simp; done) | (go_simp; rfl)); intro gb399 hg w49 hbox hb; have BK399 := Aside0.mk (hbox); have GW399 := ge HB hg; have GE399 := ge HB hg; have NB391_399 := nl BK391 hg; have NB399_391 := ng NB391_399; have NB395_399 := nl BK395 hg; have NB399_395 := ng NB395_399; replace BK391 := bb BK391 hb; replace BK395 := bb BK395 hb; replace HB := bs HB hb; clear hb hbox hg; have hnb50 := NB399_391.out; have hnc50 := NB391_399.out; have hnb51 := NB399_395.out; have hnc51 := NB395_399.out; obtain ⟨hcz52_0, hcz52_1, hfz52_0, hfz52_1⟩ := cz2 BK399) | ((with_reducible refine gate_callee (f := 25) rfl ?_); refine goesL_ (some 50) rfl rfl Try.func25 (by kernel_rfl) rfl #[.slice A0 l0.length c0, .int .i64 (wrap64 (Int.tmod a1 1073741824))] rfl zm ?_; (with_reducible refine (corebankref14_Grains.calls k _ _ l0 (wrap64 (Int.tmod a1 1073741824)) t405 t406 t407 _ ?side1 ?side2 A36.out).mono ?_); (case side1 => exact Kd.C_below HR0.out (hq HB)); (case side2 => exact HC0.out); rintro e w53 ⟨rfl, hb⟩; refine ⟨_, rfl, ?_⟩; replace BK391 := bb BK391 hb; replace BK395 := bb BK395 hb; replace BK399 := bpb BK399 hb #[.int .i64 t396, .int .u64 t397]; replace HB := bs HB hb; (try clear hb); (try clear hb2); (try clear hk); (try clear hi)) | ((with_reducible refine gate_dst (N := 15) rfl ?_); refine box_event ?hg (N := 15) ?hd (cs := #[.int .i64 0, .int .u64 0]) (t := 35) ?hr ?_; (case hd => rfl); (case hg => rfl); (case hr => first | (go_simp; done) | (go_simp; rfl)); intro gb408 hg w54 hbox hb; have BK408 := Aside0.mk (hbox); have GW408 := ge HB hg; have GE408 := ge HB hg; have NB391_408 := nl BK391 hg; have NB408_391 := ng NB391_408; have NB395_408 := nl BK395 hg; have NB408_395 := ng NB395_408; have NB399_408 := nl BK399 hg; have NB408_399 := ng NB399_408; replace BK391 := bb BK391 hb; replace BK395 := bb BK395 hb; replace BK399 := bb BK399 hb; replace HB := bs HB hb; clear hb hbox hg; have hnb55 := NB408_391.out; have hnc55 := NB391_408.out; have hnb56 := NB408_395.out; have hnc56 := NB395_408.out; have hnb57 := NB408_399.out; have hnc57 := NB399_408.out; obtain ⟨hcz58_0, hcz58_1, hfz58_0, hfz58_1⟩ := cz2 BK408) | (go_at_call 18; (with_reducible refine (corebanklaw14_live.calls  t409 _ A40.out).mono ?_); rintro e w59 ⟨rfl, hb⟩; replace BK391 := bb BK391 hb; replace BK395 := bb BK395 hb; replace BK399 := bb BK399 hb; replace BK408 := bpb BK408 hb #[.int .i64 t405, .int .u64 t406]; replace HB := bs HB hb; (try clear hb); (try clear hb2); (try clear hk); (try clear hi)))
          go_ret
          exact ⟨by first | rfl | (simp [errW_none, errW_some] <;> rfl) | (simp [*, errW_none, errW_some] <;> rfl), hq HB⟩
        · rw [if_neg c39] at H
          have c39b0 : (t407 == t390) = false := beq_eq_false_iff_ne.mpr c39
          have c39b1 : (t407 != t390) = true := bne_iff_ne.mpr c39
          exact absurd ((Option.some.inj H).trans HT.out) (by decide)
      · rw [if_neg c38] at H
        have c38b0 : (t390 == t398) = false := beq_eq_false_iff_ne.mpr c38
        have c38b1 : (t390 != t398) = true := bne_iff_ne.mpr c38
        exact absurd ((Option.some.inj H).trans HT.out) (by decide)
    · rw [if_neg c37] at H
      have c37b0 : (t390 == t394) = false := beq_eq_false_iff_ne.mpr c37
      have c37b1 : (t390 != t394) = true := bne_iff_ne.mpr c37
      exact absurd ((Option.some.inj H).trans HT.out) (by decide)

end Go.Proofs.Ytlmabdiodopidaa.P
