-- laid by wip/tools/pr.sh (a patched printer; Lean checks it)
import Derived.Test.YtlmabdiodopidaaSq
import Derived.Test.YtlmabdiodopidaaPx0
import Derived.Test.YtlmabdiodopidaaPx7
import Derived.Test.YtlmabdiodopidaaPx8
import Derived.Test.YtlmabdiodopidaaPx16
import Derived.Test.YtlmabdiodopidaaLive14
namespace Go.Proofs.Ytlmabdiodopidaa.P
open Go.Proofs.Ytlmabdiodopidaa.G
attribute [local go_sem high] un_not64 un_noti run_add64
open Go.RowKit Go.Proofs.YtlmabdiodopidaaW.PrintWords Go.Proofs.YtlmabdiodopidaaW.PrintLast Go.Proofs.YtlmabdiodopidaaW.PrintMore
attribute [local go_sem] max2_int min2_int max_two min_two max_three min_three max_four min_four   -- for this text's walks alone
set_option linter.unusedVariables false
set_option linter.unusedSimpArgs false

/-! ### corebanklaw14_TierSlices: function 5 -/
def corebanklaw14_TierSlices.f (k : Nat) (l0 : List (S50)) (a1 : Bool) (a2 : Int) : Option (Bool) := if (l0.length : Int) > 100 then ((corebanklaw14_live.f).bind fun t241 => (some t241)) else ((tier_Slices.f k l0 a1 a2).bind fun t242 => ((corebankref14_Slices.f k l0 a1 a2).bind fun t245 => ((corebankref14_Same.f k t242 t245).bind fun t248 => (if t248 = true then ((corebanklaw14_live.f).bind fun t249 => (some t249)) else (some false)))))
theorem corebanklaw14_TierSlices.mono : ∀ a0 a1 a2 k, LeO (corebanklaw14_TierSlices.f k a0 a1 a2) (corebanklaw14_TierSlices.f (k + 1) a0 a1 a2) := by
  intro a0 a1 a2 k
  unfold corebanklaw14_TierSlices.f
  repeat' first
      | (with_reducible exact corebankref14_Same.mono _ _ _)
      | (with_reducible exact corebankref14_Slices.mono _ _ _ _)
      | (with_reducible exact tier_Slices.mono _ _ _ _)
      | (with_reducible exact LeO.refl _)
      | (with_reducible exact LeO.none _)
      | (with_reducible refine LeO.ite ?_ ?_)
      | (with_reducible refine LeO.bind ?_ (fun _ => ?_))
      | exact corebankref14_Same.mono _ _ _
      | exact corebankref14_Slices.mono _ _ _ _
      | exact tier_Slices.mono _ _ _ _
      | exact LeO.none _
      | refine LeO.ite ?_ ?_
      | refine LeO.bind ?_ (fun _ => ?_)
set_option maxHeartbeats 8000000 in
set_option maxRecDepth 100000 in
theorem corebanklaw14_TierSlices.calls (k : Nat) (A0 : Option Addr) (c0 : Nat) (l0 : List (S50)) (a1 : Bool) (a2 : Int) (r : Bool) (w : World) (hr0 : Kd.C k50 w A0 l0.length l0) (hc0 : l0.length ≤ c0) (hT : r = true) (h : corebanklaw14_TierSlices.f k l0 a1 a2 = some r) :
    Calls Try.prog 5 #[.slice A0 l0.length c0, .bool a1, .int .i64 a2] w fun e w' => e = .returned (.bool r) ∧ Below w.heap.size w w' := by
  have HR0 := Aside0.mk hr0
  have HC0 := Aside0.mk hc0
  clear hr0 hc0
  have HB := Aside0.mk (Below.refl w.heap.size w)
  have HT := Aside0.mk hT
  clear hT
  have H : (if (l0.length : Int) > 100 then ((corebanklaw14_live.f).bind fun t241 => (some t241)) else ((tier_Slices.f k l0 a1 a2).bind fun t242 => ((corebankref14_Slices.f k l0 a1 a2).bind fun t245 => ((corebankref14_Same.f k t242 t245).bind fun t248 => (if t248 = true then ((corebanklaw14_live.f).bind fun t249 => (some t249)) else (some false)))))) = some r := h
  clear h
  by_cases c4 : (l0.length : Int) > 100
  · rw [if_pos c4] at H
    have c4b0 : decide (100 < (l0.length : Int)) = true := decide_eq_true c4
    have c4b1 : decide (100 < l0.length) = true := decide_eq_true (by omega)
    clear c4
    replace H := Option.bind_eq_some_iff.mp H
    obtain ⟨t241, A50, H⟩ := H
    replace H : (some t241) = some r := H
    have A5 := Aside0.mk A50
    clear A50
    obtain rfl := Option.some.inj H
    go_enter Try.func5, Try.ntmps5
    go_wp2_with (first | (go_at_call 18; (with_reducible refine (corebanklaw14_live.calls  t241 _ A5.out).mono ?_); rintro e w6 ⟨rfl, hb⟩; replace HB := bs HB hb; (try clear hb); (try clear hb2); (try clear hk); (try clear hi)))
    go_ret
    exact ⟨by first | rfl | (simp [errW_none, errW_some] <;> rfl) | (simp [*, errW_none, errW_some] <;> rfl), hq HB⟩
  · rw [if_neg c4] at H
    have c4b0 : decide (100 < (l0.length : Int)) = false := decide_eq_false c4
    have c4b1 : decide (100 < l0.length) = false := decide_eq_false (by omega)
    clear c4
    replace H := Option.bind_eq_some_iff.mp H
    obtain ⟨t242, A70, H⟩ := H
    replace H : ((corebankref14_Slices.f k l0 a1 a2).bind fun t245 => ((corebankref14_Same.f k t242 t245).bind fun t248 => (if t248 = true then ((corebanklaw14_live.f).bind fun t249 => (some t249)) else (some false)))) = some r := H
    have A7 := Aside0.mk A70
    clear A70
    replace H := Option.bind_eq_some_iff.mp H
    obtain ⟨t245, A80, H⟩ := H
    replace H : ((corebankref14_Same.f k t242 t245).bind fun t248 => (if t248 = true then ((corebanklaw14_live.f).bind fun t249 => (some t249)) else (some false))) = some r := H
    have A8 := Aside0.mk A80
    clear A80
    replace H := Option.bind_eq_some_iff.mp H
    obtain ⟨t248, A90, H⟩ := H
    replace H : (if t248 = true then ((corebanklaw14_live.f).bind fun t249 => (some t249)) else (some false)) = some r := H
    have A9 := Aside0.mk A90
    clear A90
    by_cases c10 : t248 = true
    · subst c10
      have H1 : ((corebanklaw14_live.f).bind fun t249 => (some t249)) = some r := by rw [if_pos rfl] at H; exact H
      clear H
      have H := H1
      clear H1
      replace H := Option.bind_eq_some_iff.mp H
      obtain ⟨t249, A110, H⟩ := H
      replace H : (some t249) = some r := H
      have A11 := Aside0.mk A110
      clear A110
      obtain rfl := Option.some.inj H
      go_enter Try.func5, Try.ntmps5
      go_wp2_with (first | (go_at_call 22; (with_reducible refine (tier_Slices.calls k _ _ l0 a1 a2 t242 _ ?side1 ?side2 A7.out).mono ?_); (case side1 => repeat (first | exact HR0.out | (with_reducible refine Kd.C_alloc ?_ _) | (with_reducible refine Kd.C_drewN ?_ _) | (with_reducible refine Kd.C_drew ?_))); (case side2 => exact HC0.out); rintro e w12 ⟨v243, rfl, ho0, hb⟩; have HO244 := Aside0.mk (Kd.R_lower ho0 (below_size (hq HB))); replace HB := bs HB hb; (try clear hb); (try clear hb2); (try clear hk); (try clear hi); (try clear ho0)) | (go_at_call 23; (with_reducible refine (corebankref14_Slices.calls k _ _ l0 a1 a2 t245 _ ?side1 ?side2 A8.out).mono ?_); (case side1 => repeat (first | exact (Kd.C_below HR0.out HB.out) | (with_reducible refine Kd.C_alloc ?_ _) | (with_reducible refine Kd.C_drewN ?_ _) | (with_reducible refine Kd.C_drew ?_))); (case side2 => exact HC0.out); rintro e w13 ⟨v246, rfl, ho0, hb⟩; have HO247 := Aside0.mk (Kd.R_lower (Kd.R_new' ho0 (Kd.R_lt (kq HO244))) (below_size (hq HB))); replace HO244 := Aside0.mk (Kd.R_elder' (kq HO244) (Kd.R_base ho0) hb); replace HB := bs HB hb; (try clear hb); (try clear hb2); (try clear hk); (try clear hi); (try clear ho0); obtain ⟨Ao14, co14, eo14⟩ := Kd.R_slice HO244.out; subst eo14; obtain ⟨Ao15, co15, eo15⟩ := Kd.R_slice HO247.out; subst eo15) | (go_at_call 21; (with_reducible refine (corebankref14_Same.calls k _ _ t242 _ _ t245 true _ ?side1 ?side2 ?side3 ?side4 A9.out).mono ?_); (case side1 => repeat (first | exact (Kd.R_reads' HO244.out).2.2 | (with_reducible refine Kd.C_alloc ?_ _) | (with_reducible refine Kd.C_drewN ?_ _) | (with_reducible refine Kd.C_drew ?_))); (case side2 => exact (Kd.R_reads' HO244.out).2.1); (case side3 => repeat (first | exact (Kd.R_reads' HO247.out).2.2 | (with_reducible refine Kd.C_alloc ?_ _) | (with_reducible refine Kd.C_drewN ?_ _) | (with_reducible refine Kd.C_drew ?_))); (case side4 => exact (Kd.R_reads' HO247.out).2.1); rintro e w' ⟨rfl, ⟨nd, rfl⟩⟩) | (go_at_call 18; (with_reducible refine (corebanklaw14_live.calls  t249 _ A11.out).mono ?_); rintro e w16 ⟨rfl, hb⟩; replace HO244 := kb HO244 hb; replace HO247 := kb HO247 hb; replace HB := bs HB hb; (try clear hb); (try clear hb2); (try clear hk); (try clear hi)))
      go_ret
      exact ⟨by first | rfl | (simp [errW_none, errW_some] <;> rfl) | (simp [*, errW_none, errW_some] <;> rfl), hq HB⟩
    · replace c10 := Bool.eq_false_iff.mpr c10
      subst c10
      have H1 : (some false) = some r := by rw [if_neg (show ¬ (false = true) by decide)] at H; exact H
      clear H
      have H := H1
      clear H1
      exact absurd ((Option.some.inj H).trans HT.out) (by decide)

/-! ### corebankref01_Split: function 48 -/
def corebankref01_Split.f (a0_0 : Int) (a0_1 : Int) : Option (Bool × Int × Int) := if a0_0 ≥ 0 then (some (false, IntKind.u64.wrap (a0_0), a0_1)) else (if (IntKind.u64.wrap ((not64 a0_1) + 1)) = 0 then (some (true, IntKind.u64.wrap ((not64 (IntKind.u64.wrap (a0_0))) + 1), IntKind.u64.wrap ((not64 a0_1) + 1))) else (some (true, not64 (IntKind.u64.wrap (a0_0)), IntKind.u64.wrap ((not64 a0_1) + 1))))
set_option maxHeartbeats 8000000 in
set_option maxRecDepth 100000 in
theorem corebankref01_Split.calls (a0_0 : Int) (a0_1 : Int) (r1 : Bool) (r2 : Int) (r3 : Int) (w : World) (h : corebankref01_Split.f a0_0 a0_1 = some (r1, r2, r3)) :
    Calls Try.prog 48 #[.agg #[.int .i64 a0_0, .int .u64 a0_1]] w fun e w' => e = .returned (.tuple #[.bool r1, .agg #[.int .u64 r2, .int .u64 r3]]) ∧ Below w.heap.size w w' := by
  have hu35 := Try.underlying35
  have hu89 := Try.underlying89
  have HB := Aside0.mk (Below.refl w.heap.size w)
  have H : (if a0_0 ≥ 0 then (some (false, IntKind.u64.wrap (a0_0), a0_1)) else (if (IntKind.u64.wrap ((not64 a0_1) + 1)) = 0 then (some (true, IntKind.u64.wrap ((not64 (IntKind.u64.wrap (a0_0))) + 1), IntKind.u64.wrap ((not64 a0_1) + 1))) else (some (true, not64 (IntKind.u64.wrap (a0_0)), IntKind.u64.wrap ((not64 a0_1) + 1))))) = some (r1, r2, r3) := h
  clear h
  by_cases c2 : a0_0 ≥ 0
  · rw [if_pos c2] at H
    have c2b0 : decide (0 ≤ a0_0) = true := decide_eq_true c2
    clear c2
    simp only [Option.some.injEq, Prod.mk.injEq] at H
    obtain ⟨rfl, rfl, rfl⟩ := H
    go_enter Try.func48, Try.ntmps48
    go_wp2_with (first | ((with_reducible refine gate_dst (N := 1) rfl ?_); refine box_event ?hg (N := 1) ?hd (cs := #[.int .i64 a0_0, .int .u64 a0_1]) (t := 35) ?hr ?_; (case hd => rfl); (case hg => rfl); (case hr => first | (go_simp; done) | (go_simp; rfl)); intro gb250 hg w3 hbox hb; have BK250 := Aside0.mk (hbox); have GW250 := ge HB hg; have GE250 := ge HB hg; replace HB := bs HB hb; clear hb hbox hg) | ((with_reducible refine gate_dst (N := 3) rfl ?_); refine box_event ?hg (N := 3) ?hd (cs := #[.int .u64 0, .int .u64 0]) (t := 89) ?hr ?_; (case hd => rfl); (case hg => rfl); (case hr => first | (go_simp; done) | (go_simp; rfl)); intro gb251 hg w4 hbox hb; have BK251 := Aside0.mk (hbox); have GW251 := ge HB hg; have GE251 := ge HB hg; have NB250_251 := nl BK250 hg; have NB251_250 := ng NB250_251; replace BK250 := bb BK250 hb; replace HB := bs HB hb; clear hb hbox hg; have hnb5 := NB250_251.out; have hnc5 := NB251_250.out; obtain ⟨hcz6_0, hcz6_1, hfz6_0, hfz6_1⟩ := cz2 BK250; obtain ⟨hcz7_0, hcz7_1, hfz7_0, hfz7_1⟩ := cz2 BK251))
    repeat (go_quiet (first | ((with_reducible refine gate_dst (N := 1) rfl ?_); refine box_event ?hg (N := 1) ?hd (cs := #[.int .i64 a0_0, .int .u64 a0_1]) (t := 35) ?hr ?_; (case hd => rfl); (case hg => rfl); (case hr => first | (go_simp; done) | (go_simp; rfl)); intro gb250 hg w3 hbox hb; have BK250 := Aside0.mk (hbox); have GW250 := ge HB hg; have GE250 := ge HB hg; replace HB := bs HB hb; clear hb hbox hg) | ((with_reducible refine gate_dst (N := 3) rfl ?_); refine box_event ?hg (N := 3) ?hd (cs := #[.int .u64 0, .int .u64 0]) (t := 89) ?hr ?_; (case hd => rfl); (case hg => rfl); (case hr => first | (go_simp; done) | (go_simp; rfl)); intro gb251 hg w4 hbox hb; have BK251 := Aside0.mk (hbox); have GW251 := ge HB hg; have GE251 := ge HB hg; have NB250_251 := nl BK250 hg; have NB251_250 := ng NB250_251; replace BK250 := bb BK250 hb; replace HB := bs HB hb; clear hb hbox hg; have hnb5 := NB250_251.out; have hnc5 := NB251_250.out; obtain ⟨hcz6_0, hcz6_1, hfz6_0, hfz6_1⟩ := cz2 BK250; obtain ⟨hcz7_0, hcz7_1, hfz7_0, hfz7_1⟩ := cz2 BK251)); try go_wp2_with (first | ((with_reducible refine gate_dst (N := 1) rfl ?_); refine box_event ?hg (N := 1) ?hd (cs := #[.int .i64 a0_0, .int .u64 a0_1]) (t := 35) ?hr ?_; (case hd => rfl); (case hg => rfl); (case hr => first | (go_simp; done) | (go_simp; rfl)); intro gb250 hg w3 hbox hb; have BK250 := Aside0.mk (hbox); have GW250 := ge HB hg; have GE250 := ge HB hg; replace HB := bs HB hb; clear hb hbox hg) | ((with_reducible refine gate_dst (N := 3) rfl ?_); refine box_event ?hg (N := 3) ?hd (cs := #[.int .u64 0, .int .u64 0]) (t := 89) ?hr ?_; (case hd => rfl); (case hg => rfl); (case hr => first | (go_simp; done) | (go_simp; rfl)); intro gb251 hg w4 hbox hb; have BK251 := Aside0.mk (hbox); have GW251 := ge HB hg; have GE251 := ge HB hg; have NB250_251 := nl BK250 hg; have NB251_250 := ng NB250_251; replace BK250 := bb BK250 hb; replace HB := bs HB hb; clear hb hbox hg; have hnb5 := NB250_251.out; have hnc5 := NB251_250.out; obtain ⟨hcz6_0, hcz6_1, hfz6_0, hfz6_1⟩ := cz2 BK250; obtain ⟨hcz7_0, hcz7_1, hfz7_0, hfz7_1⟩ := cz2 BK251)))
    refine bodyPost_ret (results_tc rfl _ _ gb251 89 #[.int .u64 (IntKind.u64.wrap (a0_0)), .int .u64 a0_1] (0, 0) _ rfl (bp BK251) Try.underlying89 rfl (by kernel_rfl)) rfl ?_
    exact ⟨by first | rfl | (simp [errW_none, errW_some] <;> rfl) | (simp [*, errW_none, errW_some] <;> rfl), hq HB⟩
  · rw [if_neg c2] at H
    have c2b0 : decide (0 ≤ a0_0) = false := decide_eq_false c2
    clear c2
    by_cases c8 : (IntKind.u64.wrap ((not64 a0_1) + 1)) = 0
    · rw [if_pos c8] at H
      have c8b0 : ((IntKind.u64.wrap ((not64 a0_1) + 1)) == 0) = true := beq_iff_eq.mpr c8
      have c8b1 : ((IntKind.u64.wrap ((not64 a0_1) + 1)) != 0) = false := bne_eq_false_iff_eq.mpr c8
      clear c8
      simp only [Option.some.injEq, Prod.mk.injEq] at H
      obtain ⟨rfl, rfl, rfl⟩ := H
      go_enter Try.func48, Try.ntmps48
      go_wp2_with (first | ((with_reducible refine gate_dst (N := 1) rfl ?_); refine box_event ?hg (N := 1) ?hd (cs := #[.int .i64 a0_0, .int .u64 a0_1]) (t := 35) ?hr ?_; (case hd => rfl); (case hg => rfl); (case hr => first | (go_simp; done) | (go_simp; rfl)); intro gb250 hg w9 hbox hb; have BK250 := Aside0.mk (hbox); have GW250 := ge HB hg; have GE250 := ge HB hg; replace HB := bs HB hb; clear hb hbox hg) | ((with_reducible refine gate_dst (N := 3) rfl ?_); refine box_event ?hg (N := 3) ?hd (cs := #[.int .u64 0, .int .u64 0]) (t := 89) ?hr ?_; (case hd => rfl); (case hg => rfl); (case hr => first | (go_simp; done) | (go_simp; rfl)); intro gb251 hg w10 hbox hb; have BK251 := Aside0.mk (hbox); have GW251 := ge HB hg; have GE251 := ge HB hg; have NB250_251 := nl BK250 hg; have NB251_250 := ng NB250_251; replace BK250 := bb BK250 hb; replace HB := bs HB hb; clear hb hbox hg; have hnb11 := NB250_251.out; have hnc11 := NB251_250.out; obtain ⟨hcz12_0, hcz12_1, hfz12_0, hfz12_1⟩ := cz2 BK250; obtain ⟨hcz13_0, hcz13_1, hfz13_0, hfz13_1⟩ := cz2 BK251))
      repeat (go_quiet (first | ((with_reducible refine gate_dst (N := 1) rfl ?_); refine box_event ?hg (N := 1) ?hd (cs := #[.int .i64 a0_0, .int .u64 a0_1]) (t := 35) ?hr ?_; (case hd => rfl); (case hg => rfl); (case hr => first | (go_simp; done) | (go_simp; rfl)); intro gb250 hg w9 hbox hb; have BK250 := Aside0.mk (hbox); have GW250 := ge HB hg; have GE250 := ge HB hg; replace HB := bs HB hb; clear hb hbox hg) | ((with_reducible refine gate_dst (N := 3) rfl ?_); refine box_event ?hg (N := 3) ?hd (cs := #[.int .u64 0, .int .u64 0]) (t := 89) ?hr ?_; (case hd => rfl); (case hg => rfl); (case hr => first | (go_simp; done) | (go_simp; rfl)); intro gb251 hg w10 hbox hb; have BK251 := Aside0.mk (hbox); have GW251 := ge HB hg; have GE251 := ge HB hg; have NB250_251 := nl BK250 hg; have NB251_250 := ng NB250_251; replace BK250 := bb BK250 hb; replace HB := bs HB hb; clear hb hbox hg; have hnb11 := NB250_251.out; have hnc11 := NB251_250.out; obtain ⟨hcz12_0, hcz12_1, hfz12_0, hfz12_1⟩ := cz2 BK250; obtain ⟨hcz13_0, hcz13_1, hfz13_0, hfz13_1⟩ := cz2 BK251)); try go_wp2_with (first | ((with_reducible refine gate_dst (N := 1) rfl ?_); refine box_event ?hg (N := 1) ?hd (cs := #[.int .i64 a0_0, .int .u64 a0_1]) (t := 35) ?hr ?_; (case hd => rfl); (case hg => rfl); (case hr => first | (go_simp; done) | (go_simp; rfl)); intro gb250 hg w9 hbox hb; have BK250 := Aside0.mk (hbox); have GW250 := ge HB hg; have GE250 := ge HB hg; replace HB := bs HB hb; clear hb hbox hg) | ((with_reducible refine gate_dst (N := 3) rfl ?_); refine box_event ?hg (N := 3) ?hd (cs := #[.int .u64 0, .int .u64 0]) (t := 89) ?hr ?_; (case hd => rfl); (case hg => rfl); (case hr => first | (go_simp; done) | (go_simp; rfl)); intro gb251 hg w10 hbox hb; have BK251 := Aside0.mk (hbox); have GW251 := ge HB hg; have GE251 := ge HB hg; have NB250_251 := nl BK250 hg; have NB251_250 := ng NB250_251; replace BK250 := bb BK250 hb; replace HB := bs HB hb; clear hb hbox hg; have hnb11 := NB250_251.out; have hnc11 := NB251_250.out; obtain ⟨hcz12_0, hcz12_1, hfz12_0, hfz12_1⟩ := cz2 BK250; obtain ⟨hcz13_0, hcz13_1, hfz13_0, hfz13_1⟩ := cz2 BK251)))
      refine bodyPost_ret (results_tc rfl _ _ gb251 89 #[.int .u64 (IntKind.u64.wrap ((not64 (IntKind.u64.wrap (a0_0))) + 1)), .int .u64 (IntKind.u64.wrap ((not64 a0_1) + 1))] (0, 0) _ rfl (bp BK251) Try.underlying89 rfl (by kernel_rfl)) rfl ?_
      exact ⟨by first | rfl | (simp [errW_none, errW_some] <;> rfl) | (simp [*, errW_none, errW_some] <;> rfl), hq HB⟩
    · rw [if_neg c8] at H
      have c8b0 : ((IntKind.u64.wrap ((not64 a0_1) + 1)) == 0) = false := beq_eq_false_iff_ne.mpr c8
      have c8b1 : ((IntKind.u64.wrap ((not64 a0_1) + 1)) != 0) = true := bne_iff_ne.mpr c8
      simp only [Option.some.injEq, Prod.mk.injEq] at H
      obtain ⟨rfl, rfl, rfl⟩ := H
      go_enter Try.func48, Try.ntmps48
      go_wp2_with (first | ((with_reducible refine gate_dst (N := 1) rfl ?_); refine box_event ?hg (N := 1) ?hd (cs := #[.int .i64 a0_0, .int .u64 a0_1]) (t := 35) ?hr ?_; (case hd => rfl); (case hg => rfl); (case hr => first | (go_simp; done) | (go_simp; rfl)); intro gb250 hg w14 hbox hb; have BK250 := Aside0.mk (hbox); have GW250 := ge HB hg; have GE250 := ge HB hg; replace HB := bs HB hb; clear hb hbox hg) | ((with_reducible refine gate_dst (N := 3) rfl ?_); refine box_event ?hg (N := 3) ?hd (cs := #[.int .u64 0, .int .u64 0]) (t := 89) ?hr ?_; (case hd => rfl); (case hg => rfl); (case hr => first | (go_simp; done) | (go_simp; rfl)); intro gb251 hg w15 hbox hb; have BK251 := Aside0.mk (hbox); have GW251 := ge HB hg; have GE251 := ge HB hg; have NB250_251 := nl BK250 hg; have NB251_250 := ng NB250_251; replace BK250 := bb BK250 hb; replace HB := bs HB hb; clear hb hbox hg; have hnb16 := NB250_251.out; have hnc16 := NB251_250.out; obtain ⟨hcz17_0, hcz17_1, hfz17_0, hfz17_1⟩ := cz2 BK250; obtain ⟨hcz18_0, hcz18_1, hfz18_0, hfz18_1⟩ := cz2 BK251))
      repeat (go_quiet (first | ((with_reducible refine gate_dst (N := 1) rfl ?_); refine box_event ?hg (N := 1) ?hd (cs := #[.int .i64 a0_0, .int .u64 a0_1]) (t := 35) ?hr ?_; (case hd => rfl); (case hg => rfl); (case hr => first | (go_simp; done) | (go_simp; rfl)); intro gb250 hg w14 hbox hb; have BK250 := Aside0.mk (hbox); have GW250 := ge HB hg; have GE250 := ge HB hg; replace HB := bs HB hb; clear hb hbox hg) | ((with_reducible refine gate_dst (N := 3) rfl ?_); refine box_event ?hg (N := 3) ?hd (cs := #[.int .u64 0, .int .u64 0]) (t := 89) ?hr ?_; (case hd => rfl); (case hg => rfl); (case hr => first | (go_simp; done) | (go_simp; rfl)); intro gb251 hg w15 hbox hb; have BK251 := Aside0.mk (hbox); have GW251 := ge HB hg; have GE251 := ge HB hg; have NB250_251 := nl BK250 hg; have NB251_250 := ng NB250_251; replace BK250 := bb BK250 hb; replace HB := bs HB hb; clear hb hbox hg; have hnb16 := NB250_251.out; have hnc16 := NB251_250.out; obtain ⟨hcz17_0, hcz17_1, hfz17_0, hfz17_1⟩ := cz2 BK250; obtain ⟨hcz18_0, hcz18_1, hfz18_0, hfz18_1⟩ := cz2 BK251)); try go_wp2_with (first | ((with_reducible refine gate_dst (N := 1) rfl ?_); refine box_event ?hg (N := 1) ?hd (cs := #[.int .i64 a0_0, .int .u64 a0_1]) (t := 35) ?hr ?_; (case hd => rfl); (case hg => rfl); (case hr => first | (go_simp; done) | (go_simp; rfl)); intro gb250 hg w14 hbox hb; have BK250 := Aside0.mk (hbox); have GW250 := ge HB hg; have GE250 := ge HB hg; replace HB := bs HB hb; clear hb hbox hg) | ((with_reducible refine gate_dst (N := 3) rfl ?_); refine box_event ?hg (N := 3) ?hd (cs := #[.int .u64 0, .int .u64 0]) (t := 89) ?hr ?_; (case hd => rfl); (case hg => rfl); (case hr => first | (go_simp; done) | (go_simp; rfl)); intro gb251 hg w15 hbox hb; have BK251 := Aside0.mk (hbox); have GW251 := ge HB hg; have GE251 := ge HB hg; have NB250_251 := nl BK250 hg; have NB251_250 := ng NB250_251; replace BK250 := bb BK250 hb; replace HB := bs HB hb; clear hb hbox hg; have hnb16 := NB250_251.out; have hnc16 := NB251_250.out; obtain ⟨hcz17_0, hcz17_1, hfz17_0, hfz17_1⟩ := cz2 BK250; obtain ⟨hcz18_0, hcz18_1, hfz18_0, hfz18_1⟩ := cz2 BK251)))
      refine bodyPost_ret (results_tc rfl _ _ gb251 89 #[.int .u64 (not64 (IntKind.u64.wrap (a0_0))), .int .u64 (IntKind.u64.wrap ((not64 a0_1) + 1))] (0, 0) _ rfl (bp BK251) Try.underlying89 rfl (by kernel_rfl)) rfl ?_
      exact ⟨by first | rfl | (simp [errW_none, errW_some] <;> rfl) | (simp [*, errW_none, errW_some] <;> rfl), hq HB⟩

end Go.Proofs.Ytlmabdiodopidaa.P
