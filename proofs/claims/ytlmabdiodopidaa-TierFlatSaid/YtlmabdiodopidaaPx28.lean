-- laid by wip/tools/pr.sh (a patched printer; Lean checks it)
import Derived.Test.YtlmabdiodopidaaSq
import Derived.Test.YtlmabdiodopidaaPx0
import Derived.Test.YtlmabdiodopidaaPx1
import Derived.Test.YtlmabdiodopidaaPx5
import Derived.Test.YtlmabdiodopidaaPx6
import Derived.Test.YtlmabdiodopidaaPx8
import Derived.Test.YtlmabdiodopidaaPx12
import Derived.Test.YtlmabdiodopidaaLive14
namespace Go.Proofs.Ytlmabdiodopidaa.P
open Go.Proofs.Ytlmabdiodopidaa.G
attribute [local go_sem high] un_not64 un_noti run_add64
open Go.RowKit Go.Proofs.YtlmabdiodopidaaW.PrintWords Go.Proofs.YtlmabdiodopidaaW.PrintLast Go.Proofs.YtlmabdiodopidaaW.PrintMore
attribute [local go_sem] max2_int min2_int max_two min_two max_three min_three max_four min_four   -- for this text's walks alone
set_option linter.unusedVariables false
set_option linter.unusedSimpArgs false

attribute [local go_sem high] eqA35
/-! ### corebanklaw14_TierFlat: function 9 -/
mutual
def corebanklaw14_TierFlat.j0 : Nat → List (S50) → Int → Int → Bool → Option (Bool)
  | 0, _, _, _, _ => none
  | k + 1, x0, x1, x2, x23 => if x23 = true then ((corebanklaw14_live.f).bind fun t411 => (some t411)) else (corebanklaw14_TierFlat.l0 k x0 x1 x2 (([] : List (S50))) 0)
def corebanklaw14_TierFlat.l0 : Nat → List (S50) → Int → Int → List (S50) → Int → Option (Bool)
  | 0, _, _, _, _, _ => none
  | k + 1, x0, x1, x2, x7, x8 => if x8 < (x0.length : Int) then (if 0 ≤ x8 then (if x7.length < 8796093022208 then (corebanklaw14_TierFlat.l0 k x0 x1 x2 (x7 ++ [(⟨(rd_T50 x0 x8).f0, x1⟩ : S50)]) (wrap64 (x8 + 1))) else (none)) else (none)) else ((tier_Slices.f k x7 true x2).bind fun t419 => ((tier_Grains.f k t419 4392).bind fun bt422 => ((tier_Slices.f k x7 false x2).bind fun t426 => ((tier_Grains.f k t426 4392).bind fun bt429 => (if bt422.2.2 = 0 then (if bt429.2.2 = 0 then (if (bt422.1 == bt429.1 && (bt422.2.1 == bt429.2.1)) = true then (if (x0.length : Int) = 0 then ((corebanklaw14_live.f).bind fun t433 => (some t433)) else ((tier_Rate.f k x7 x2).bind fun t434 => (if t434 = x1 then ((corebanklaw14_live.f).bind fun t435 => (some t435)) else (some false)))) else (some false)) else (some false)) else (some false))))))
end
def corebanklaw14_TierFlat.f (k : Nat) (l0 : List (S50)) (a1 : Int) (a2 : Int) : Option (Bool) := (corebankref14_Check.f k l0).bind fun t410 => (if t410 = 0 then (if a1 < 0 then (corebanklaw14_TierFlat.j0 k l0 a1 a2 true) else (corebanklaw14_TierFlat.j0 k l0 a1 a2 (decide (a1 > 1000000)))) else (corebanklaw14_TierFlat.j0 k l0 a1 a2 true))
theorem corebanklaw14_TierFlat.mono_l : ∀ k, (∀ y0 y1 y2 y3, LeO (corebanklaw14_TierFlat.j0 k y0 y1 y2 y3) (corebanklaw14_TierFlat.j0 (k + 1) y0 y1 y2 y3)) ∧ (∀ y0 y1 y2 y3 y4, LeO (corebanklaw14_TierFlat.l0 k y0 y1 y2 y3 y4) (corebanklaw14_TierFlat.l0 (k + 1) y0 y1 y2 y3 y4))
  | 0 => ⟨fun _ _ _ _ r h => by simp [corebanklaw14_TierFlat.j0] at h, fun _ _ _ _ _ r h => by simp [corebanklaw14_TierFlat.l0] at h⟩
  | k + 1 => by
    obtain ⟨ih0, ih1⟩ := corebanklaw14_TierFlat.mono_l k
    refine ⟨?_, ?_⟩
    · intro y0 y1 y2 y3
      unfold corebanklaw14_TierFlat.j0
      repeat' first
      | (with_reducible exact ih0 _ _ _ _)
      | (with_reducible exact ih1 _ _ _ _ _)
      | (with_reducible exact corebankref14_Check.mono _ _)
      | (with_reducible exact tier_Grains.mono _ _ _)
      | (with_reducible exact tier_Rate.mono _ _ _)
      | (with_reducible exact tier_Slices.mono _ _ _ _)
      | (with_reducible exact LeO.refl _)
      | (with_reducible exact LeO.none _)
      | (with_reducible refine LeO.ite ?_ ?_)
      | (with_reducible refine LeO.bind ?_ (fun _ => ?_))
      | exact ih0 _ _ _ _
      | exact ih1 _ _ _ _ _
      | exact corebankref14_Check.mono _ _
      | exact tier_Grains.mono _ _ _
      | exact tier_Rate.mono _ _ _
      | exact tier_Slices.mono _ _ _ _
      | exact LeO.none _
      | refine LeO.ite ?_ ?_
      | refine LeO.bind ?_ (fun _ => ?_)
    · intro y0 y1 y2 y3 y4
      unfold corebanklaw14_TierFlat.l0
      repeat' first
      | (with_reducible exact ih0 _ _ _ _)
      | (with_reducible exact ih1 _ _ _ _ _)
      | (with_reducible exact corebankref14_Check.mono _ _)
      | (with_reducible exact tier_Grains.mono _ _ _)
      | (with_reducible exact tier_Rate.mono _ _ _)
      | (with_reducible exact tier_Slices.mono _ _ _ _)
      | (with_reducible exact LeO.refl _)
      | (with_reducible exact LeO.none _)
      | (with_reducible refine LeO.ite ?_ ?_)
      | (with_reducible refine LeO.bind ?_ (fun _ => ?_))
      | exact ih0 _ _ _ _
      | exact ih1 _ _ _ _ _
      | exact corebankref14_Check.mono _ _
      | exact tier_Grains.mono _ _ _
      | exact tier_Rate.mono _ _ _
      | exact tier_Slices.mono _ _ _ _
      | exact LeO.none _
      | refine LeO.ite ?_ ?_
      | refine LeO.bind ?_ (fun _ => ?_)
theorem corebanklaw14_TierFlat.mono : ∀ a0 a1 a2 k, LeO (corebanklaw14_TierFlat.f k a0 a1 a2) (corebanklaw14_TierFlat.f (k + 1) a0 a1 a2) := by
  intro a0 a1 a2 k
  obtain ⟨ih0, ih1⟩ := corebanklaw14_TierFlat.mono_l k
  unfold corebanklaw14_TierFlat.f
  repeat' first
      | (with_reducible exact ih0 _ _ _ _)
      | (with_reducible exact ih1 _ _ _ _ _)
      | (with_reducible exact corebankref14_Check.mono _ _)
      | (with_reducible exact tier_Grains.mono _ _ _)
      | (with_reducible exact tier_Rate.mono _ _ _)
      | (with_reducible exact tier_Slices.mono _ _ _ _)
      | (with_reducible exact LeO.refl _)
      | (with_reducible exact LeO.none _)
      | (with_reducible refine LeO.ite ?_ ?_)
      | (with_reducible refine LeO.bind ?_ (fun _ => ?_))
      | exact ih0 _ _ _ _
      | exact ih1 _ _ _ _ _
      | exact corebankref14_Check.mono _ _
      | exact tier_Grains.mono _ _ _
      | exact tier_Rate.mono _ _ _
      | exact tier_Slices.mono _ _ _ _
      | exact LeO.none _
      | refine LeO.ite ?_ ?_
      | refine LeO.bind ?_ (fun _ => ?_)
set_option maxHeartbeats 8000000 in
set_option maxRecDepth 100000 in
theorem corebanklaw14_TierFlat.calls (k : Nat) (A0 : Option Addr) (c0 : Nat) (l0 : List (S50)) (a1 : Int) (a2 : Int) (r : Bool) (w : World) (hr0 : Kd.C k50 w A0 l0.length l0) (hc0 : l0.length ≤ c0) (hT : r = true) (h : corebanklaw14_TierFlat.f k l0 a1 a2 = some r) :
    Calls Try.prog 9 #[.slice A0 l0.length c0, .int .i64 a1, .int .i64 a2] w fun e w' => e = .returned (.bool r) ∧ Below w.heap.size w w' := by
  have hu50 := Try.underlying50
  have hu35 := Try.underlying35
  have HR0 := Aside0.mk hr0
  have HC0 := Aside0.mk hc0
  clear hr0 hc0
  have HB := Aside0.mk (Below.refl w.heap.size w)
  have HT := Aside0.mk hT
  clear hT
  have H : ((corebankref14_Check.f k l0).bind fun t410 => (if t410 = 0 then (if a1 < 0 then (corebanklaw14_TierFlat.j0 k l0 a1 a2 true) else (corebanklaw14_TierFlat.j0 k l0 a1 a2 (decide (a1 > 1000000)))) else (corebanklaw14_TierFlat.j0 k l0 a1 a2 true))) = some r := h
  clear h
  have HC4 := Aside0.mk H
  clear H
  go_enter Try.func9, Try.ntmps9
  go_upto_region 1 with (fail)
  go_cut [23] (fun v23 wc => ∃ (kq : Nat) (x23_3 : Bool), v23 = .bool x23_3 ∧ Aside0 (corebanklaw14_TierFlat.j0 kq l0 a1 a2 x23_3 = some r) ∧ Aside0 (kq ≤ k) ∧ Aside0 (Below w.heap.size w wc))
  case first =>
    have H := HC4.out
    clear HC4
    replace H := Option.bind_eq_some_iff.mp H
    obtain ⟨t410, A50, H⟩ := H
    replace H : (if t410 = 0 then (if a1 < 0 then (corebanklaw14_TierFlat.j0 k l0 a1 a2 true) else (corebanklaw14_TierFlat.j0 k l0 a1 a2 (decide (a1 > 1000000)))) else (corebanklaw14_TierFlat.j0 k l0 a1 a2 true)) = some r := H
    have A5 := Aside0.mk A50
    clear A50
    by_cases c6 : t410 = 0
    · rw [if_pos c6] at H
      have c6b0 : (t410 == 0) = true := beq_iff_eq.mpr c6
      have c6b1 : (t410 != 0) = false := bne_eq_false_iff_eq.mpr c6
      clear c6
      (first | rw [c6b0] | (simp only [i64_w, i32_w]; rw [c6b0]) | skip)
      by_cases c7 : a1 < 0
      · rw [if_pos c7] at H
        have c7b0 : decide (a1 < 0) = true := decide_eq_true c7
        clear c7
        have H' := Aside0.mk H
        clear H
        go_wp2_with (first | ((with_reducible refine gate_callee (f := 17) rfl ?_); refine goesL_ (some 14) rfl rfl Try.func17 (by kernel_rfl) rfl #[.slice A0 l0.length c0] rfl zm ?_; (with_reducible refine (corebankref14_Check.calls k _ _ l0 t410 _ ?side1 ?side2 A5.out).mono ?_); (case side1 => repeat (first | exact (Kd.C_below HR0.out HB.out) | (with_reducible refine Kd.C_alloc ?_ _) | (with_reducible refine Kd.C_drewN ?_ _) | (with_reducible refine Kd.C_drew ?_))); (case side2 => exact HC0.out); rintro e w' ⟨rfl, ⟨nd, rfl⟩⟩; refine ⟨_, rfl, ?_⟩))
        go_meet
        case rel => exact ⟨_, (true), (by first | rfl | (simp; done) | (simp [*]; done)), H', ⟨by first | omega | exact Nat.le_refl _⟩, ⟨hq HB⟩⟩
      · rw [if_neg c7] at H
        have c7b0 : decide (a1 < 0) = false := decide_eq_false c7
        clear c7
        have H' := Aside0.mk H
        clear H
        go_wp2_with (first | ((with_reducible refine gate_callee (f := 17) rfl ?_); refine goesL_ (some 14) rfl rfl Try.func17 (by kernel_rfl) rfl #[.slice A0 l0.length c0] rfl zm ?_; (with_reducible refine (corebankref14_Check.calls k _ _ l0 t410 _ ?side1 ?side2 A5.out).mono ?_); (case side1 => repeat (first | exact (Kd.C_below HR0.out HB.out) | (with_reducible refine Kd.C_alloc ?_ _) | (with_reducible refine Kd.C_drewN ?_ _) | (with_reducible refine Kd.C_drew ?_))); (case side2 => exact HC0.out); rintro e w' ⟨rfl, ⟨nd, rfl⟩⟩; refine ⟨_, rfl, ?_⟩))
        go_meet
        case rel => exact ⟨_, (decide (a1 > 1000000)), (by first | rfl | (simp; done) | (simp [*]; done)), H', ⟨by first | omega | exact Nat.le_refl _⟩, ⟨hq HB⟩⟩
    · rw [if_neg c6] at H
      have c6b0 : (t410 == 0) = false := beq_eq_false_iff_ne.mpr c6
      have c6b1 : (t410 != 0) = true := bne_iff_ne.mpr c6
      (first | rw [c6b0] | (simp only [i64_w, i32_w]; rw [c6b0]) | skip)
      have H' := Aside0.mk H
      clear H
      go_wp2_with (first | ((with_reducible refine gate_callee (f := 17) rfl ?_); refine goesL_ (some 14) rfl rfl Try.func17 (by kernel_rfl) rfl #[.slice A0 l0.length c0] rfl zm ?_; (with_reducible refine (corebankref14_Check.calls k _ _ l0 t410 _ ?side1 ?side2 A5.out).mono ?_); (case side1 => repeat (first | exact (Kd.C_below HR0.out HB.out) | (with_reducible refine Kd.C_alloc ?_ _) | (with_reducible refine Kd.C_drewN ?_ _) | (with_reducible refine Kd.C_drew ?_))); (case side2 => exact HC0.out); rintro e w' ⟨rfl, ⟨nd, rfl⟩⟩; refine ⟨_, rfl, ?_⟩))
      go_meet
      case rel => exact ⟨_, (true), (by first | rfl | (simp; done) | (simp [*]; done)), H', ⟨by first | omega | exact Nat.le_refl _⟩, ⟨hq HB⟩⟩
  case rest =>
    clear HC4
    try clear c1
    try clear p2
    try clear c6
    try clear c6b0
    try clear c6b1
    try clear c7
    try clear c7b0
    obtain ⟨kq, x23_3, rfl, HA, HJ3, HB⟩ := hcut
    cases kq with
    | zero => exact absurd HA.out (by simp [corebanklaw14_TierFlat.j0])
    | succ kj3 =>
      have H := HA.out
      clear HA
      simp only [corebanklaw14_TierFlat.j0] at H
      by_cases c8 : x23_3 = true
      · subst c8
        have H1 : ((corebanklaw14_live.f).bind fun t411 => (some t411)) = some r := by rw [if_pos rfl] at H; exact H
        clear H
        have H := H1
        clear H1
        replace H := Option.bind_eq_some_iff.mp H
        obtain ⟨t411, A90, H⟩ := H
        replace H : (some t411) = some r := H
        have A9 := Aside0.mk A90
        clear A90
        obtain rfl := Option.some.inj H
        go_wp2_with (first | ((with_reducible refine gate_callee (f := 18) rfl ?_); refine goesL_ (some 24) rfl rfl Try.func18 (by kernel_rfl) rfl #[] rfl zm ?_; (with_reducible refine (corebanklaw14_live.calls  t411 _ A9.out).mono ?_); rintro e w10 ⟨rfl, hb⟩; refine ⟨_, rfl, ?_⟩; replace HB := bs HB hb; (try clear hb); (try clear hb2); (try clear hk); (try clear hi)))
        go_ret
        exact ⟨by first | rfl | (simp [errW_none, errW_some] <;> rfl) | (simp [*, errW_none, errW_some] <;> rfl), hq HB⟩
      · replace c8 := Bool.eq_false_iff.mpr c8
        subst c8
        have H1 : (corebanklaw14_TierFlat.l0 kj3 l0 a1 a2 (([] : List (S50))) 0) = some r := by rw [if_neg (show ¬ (false = true) by decide)] at H; exact H
        clear H
        have H := H1
        clear H1
        obtain ⟨y412, hy412⟩ : ∃ y_ : List (S50), y_ = (([] : List (S50))) := ⟨_, rfl⟩
        replace H : (corebanklaw14_TierFlat.l0 kj3 l0 a1 a2 y412 0) = some r := by first | (rw [hy412]; with_reducible exact H) | (have H2_ := (Option.bind_some _ _).symm.trans H; rw [hy412]; with_reducible exact H2_) | (have H2_ := (Option.bind_some _ _).symm.trans H; with_reducible exact H2_) | with_reducible exact H | (rw [hy412]; exact H) | exact H
        have Ny412 := Aside0.mk hy412
        clear hy412
        have H' := Aside0.mk H
        clear H
        go_wp2_with (first | ((with_reducible refine gate_dst (N := 25) rfl ?_); (try (refine gate_guard (by rfl) ?_; dsimp only)); refine Kd.R_lit k50 _ 50 ?hg (N := 25) ?hd (xs := ([] : List (S50))) (inner := []) (ok := fun _ => True) (okp := fun _ => True) ?hr ?hp (fun _ hk => hk) trivial (Below.refl _ _) (Nat.le_refl _) (by simp) ?_; (case hd => rfl); (case hg => rfl); (case hr => first | (go_simp; done) | (go_simp; rfl)); (case hp => exact (Reps.none _ _)); intro v413 w11 ho12 hb hg_ hnew_; clear hg_ hnew_; (first | rw [← Ny412.out] at ho12 | (simp only [Int.reduceToNat] at ho12; rw [← Ny412.out] at ho12)); have HO414 := Aside0.mk (Kd.R_lower ho12 (below_size (hq HB))); replace HB := bs HB hb; clear hb ho12))
        go_loopg [7, 8] kj3 (fun kq v7 v8 w' => ∃ (x7_2 : List (S50)) (x8_2 : Int), v8 = .int .i64 x8_2 ∧ Aside0 (corebanklaw14_TierFlat.l0 kq l0 a1 a2 x7_2 x8_2 = some r) ∧ Aside0 (kq ≤ kj3) ∧ Aside0 (Kd.R k50 50 w' w.heap.size (fun _ => True) v7 x7_2) ∧ Aside0 (Below w.heap.size w w'))
        case atStart => exact ⟨(y412), (0), (by first | rfl | (simp; done) | (simp [*]; done)), H', ⟨Nat.le_refl _⟩, ⟨by (with_reducible repeat (first | apply Kd.R_alloc | apply Kd.R_drewN | apply Kd.R_drew)); exact HO414.out⟩, ⟨hq HB⟩⟩
        case round =>
          clear H'
          try clear c1
          try clear p2
          try clear c6
          try clear c6b0
          try clear c6b1
          try clear c7
          try clear c7b0
          try clear c8
          try clear c9
          try clear p2
          obtain ⟨x7_2, x8_2, rfl, HA, HK2, HO_7, HB⟩ := hrel
          cases gk with
          | zero => exact absurd HA.out (by simp [corebanklaw14_TierFlat.l0])
          | succ k2 =>
            have H := HA.out
            clear HA
            simp only [corebanklaw14_TierFlat.l0] at H
            by_cases c13 : x8_2 < (l0.length : Int)
            · rw [if_pos c13] at H
              have c13b0 : decide (x8_2 < (l0.length : Int)) = true := decide_eq_true c13
              clear c13
              by_cases c14 : 0 ≤ x8_2
              · rw [if_pos c14] at H
                have c14b0 : decide (0 ≤ x8_2) = true := decide_eq_true c14
                clear c14
                by_cases c15 : x7_2.length < 8796093022208
                · rw [if_pos c15] at H
                  have LMc15 := Aside0.mk c15
                  clear c15
                  obtain ⟨y416, hy416⟩ : ∃ y_ : List (S50), y_ = (x7_2 ++ [(⟨(rd_T50 l0 x8_2).f0, a1⟩ : S50)]) := ⟨_, rfl⟩
                  replace H : (corebanklaw14_TierFlat.l0 k2 l0 a1 a2 y416 (wrap64 (x8_2 + 1))) = some r := by first | (rw [hy416]; with_reducible exact H) | (have H2_ := (Option.bind_some _ _).symm.trans H; rw [hy416]; with_reducible exact H2_) | (have H2_ := (Option.bind_some _ _).symm.trans H; with_reducible exact H2_) | with_reducible exact H | (rw [hy416]; exact H) | exact H
                  have Ny416 := Aside0.mk hy416
                  clear hy416
                  have H' := Aside0.mk H
                  clear H
                  have p415 : 0 ≤ (x8_2 : Int) := of_decide_eq_true (by first | (with_reducible assumption) | assumption)
                  have q415 : x8_2 < (l0.length : Int) := of_decide_eq_true (by first | (with_reducible assumption) | assumption)
                  obtain ⟨ad415, e415, hx415_0, hx415_1⟩ := at_T50 HR0.out x8_2 p415 q415
                  cases e415
                  replace hx415_0 := (HB.out.cell (World.block_lt_of_cell? w _ hx415_0)).trans hx415_0
                  replace hx415_1 := (HB.out.cell (World.block_lt_of_cell? w _ hx415_1)).trans hx415_1
                  replace p415 := eq_true p415
                  replace q415 := eq_true q415
                  go_wp2_with (first | ((with_reducible refine gate_builtin (b := .append) (xs := #[.tmp 32, .tmp 40]) rfl ?_); (try (refine gate_guard (by rfl) ?_; dsimp only)); at_builtin; refine Kd.R_append k50 (w0 := w) w.heap.size rfl (.tmp 32) (.tmp 40) 22 50 (.agg #[(.int .i64 0), (.int .i64 0)]) 16 rfl Try.underlying22 info50 rfl (by decide) (by omega) u7 x7_2 (⟨(rd_T50 l0 x8_2).f0, a1⟩ : S50) [.int .i64 ((rd_T50 l0 x8_2).f0), .int .i64 a1] (fun _ => True) (fun _ => False) rfl rfl ?aP (fun _ hk => hk.elim) ?aF ?aO ?aB ?aS ?aL ?_; (case aP => exact k50_mkM _ _ _ (⟨(rd_T50 l0 x8_2).f0, a1⟩ : S50)); (case aB => exact (hq HB)); (case aF => exact (fun _ _ => trivial)); (case aO => exact (kq HO_7)); (case aS => exact (below_size (hq HB))); (case aL => have := LMc15.out; omega); intro v417 w16 ho hb hg hat; rw [← Ny416.out] at ho; have HO418 := Aside0.mk (ho); replace HB := Aside0.mk (hb); clear HO_7; clear ho hb hg hat))
                  go_roundg k2
                  case measure => have := HJ3.out; have := HK2.out; omega
                  case rel => exact ⟨(y416), (wrap64 (x8_2 + 1)), (by first | rfl | (simp; done) | (simp [*]; done)), H', ⟨by have := HJ3.out; have := HK2.out; omega⟩, ⟨by (with_reducible repeat (first | apply Kd.R_alloc | apply Kd.R_drewN | apply Kd.R_drew)); exact HO418.out⟩, ⟨hq HB⟩⟩
                · rw [if_neg c15] at H
                  exact absurd H (by simp)
              · rw [if_neg c14] at H
                exact absurd H (by simp)
            · rw [if_neg c13] at H
              have c13b0 : decide (x8_2 < (l0.length : Int)) = false := decide_eq_false c13
              clear c13
              replace H := Option.bind_eq_some_iff.mp H
              obtain ⟨t419, A170, H⟩ := H
              replace H : ((tier_Grains.f k2 t419 4392).bind fun bt422 => ((tier_Slices.f k2 x7_2 false a2).bind fun t426 => ((tier_Grains.f k2 t426 4392).bind fun bt429 => (if bt422.2.2 = 0 then (if bt429.2.2 = 0 then (if (bt422.1 == bt429.1 && (bt422.2.1 == bt429.2.1)) = true then (if (l0.length : Int) = 0 then ((corebanklaw14_live.f).bind fun t433 => (some t433)) else ((tier_Rate.f k2 x7_2 a2).bind fun t434 => (if t434 = a1 then ((corebanklaw14_live.f).bind fun t435 => (some t435)) else (some false)))) else (some false)) else (some false)) else (some false))))) = some r := H
              have A17 := Aside0.mk A170
              clear A170
              replace H := Option.bind_eq_some_iff.mp H
              obtain ⟨⟨t422, t423, t424⟩, A180, H⟩ := H
              replace H : ((tier_Slices.f k2 x7_2 false a2).bind fun t426 => ((tier_Grains.f k2 t426 4392).bind fun bt429 => (if t424 = 0 then (if bt429.2.2 = 0 then (if (t422 == bt429.1 && (t423 == bt429.2.1)) = true then (if (l0.length : Int) = 0 then ((corebanklaw14_live.f).bind fun t433 => (some t433)) else ((tier_Rate.f k2 x7_2 a2).bind fun t434 => (if t434 = a1 then ((corebanklaw14_live.f).bind fun t435 => (some t435)) else (some false)))) else (some false)) else (some false)) else (some false)))) = some r := H
              have A18 := Aside0.mk A180
              clear A180
              replace H := Option.bind_eq_some_iff.mp H
              obtain ⟨t426, A190, H⟩ := H
              replace H : ((tier_Grains.f k2 t426 4392).bind fun bt429 => (if t424 = 0 then (if bt429.2.2 = 0 then (if (t422 == bt429.1 && (t423 == bt429.2.1)) = true then (if (l0.length : Int) = 0 then ((corebanklaw14_live.f).bind fun t433 => (some t433)) else ((tier_Rate.f k2 x7_2 a2).bind fun t434 => (if t434 = a1 then ((corebanklaw14_live.f).bind fun t435 => (some t435)) else (some false)))) else (some false)) else (some false)) else (some false))) = some r := H
              have A19 := Aside0.mk A190
              clear A190
              replace H := Option.bind_eq_some_iff.mp H
              obtain ⟨⟨t429, t430, t431⟩, A200, H⟩ := H
              replace H : (if t424 = 0 then (if t431 = 0 then (if (t422 == t429 && (t423 == t430)) = true then (if (l0.length : Int) = 0 then ((corebanklaw14_live.f).bind fun t433 => (some t433)) else ((tier_Rate.f k2 x7_2 a2).bind fun t434 => (if t434 = a1 then ((corebanklaw14_live.f).bind fun t435 => (some t435)) else (some false)))) else (some false)) else (some false)) else (some false)) = some r := H
              have A20 := Aside0.mk A200
              clear A200
              by_cases c21 : t424 = 0
              · rw [if_pos c21] at H
                have c21b0 : (t424 == 0) = true := beq_iff_eq.mpr c21
                have c21b1 : (t424 != 0) = false := bne_eq_false_iff_eq.mpr c21
                clear c21
                by_cases c22 : t431 = 0
                · rw [if_pos c22] at H
                  have c22b0 : (t431 == 0) = true := beq_iff_eq.mpr c22
                  have c22b1 : (t431 != 0) = false := bne_eq_false_iff_eq.mpr c22
                  clear c22
                  by_cases c23 : (t422 == t429 && (t423 == t430)) = true
                  · rw [if_pos c23] at H
                    have c23b0 : (t422 == t429 && (t423 == t430)) = true := c23
                    (try (have c23b1 : decide (t422 = t429 && (t423 == t430)) = true := by simpa using c23))
                    (try (have c23b2 : (t422 == t429 && (t423 == t430)) = true := by simpa using c23))
                    clear c23
                    by_cases c24 : (l0.length : Int) = 0
                    · rw [if_pos c24] at H
                      have c24b0 : ((l0.length : Int) == 0) = true := beq_iff_eq.mpr c24
                      have c24b1 : ((l0.length : Int) != 0) = false := bne_eq_false_iff_eq.mpr c24
                      clear c24
                      replace H := Option.bind_eq_some_iff.mp H
                      obtain ⟨t433, A250, H⟩ := H
                      replace H : (some t433) = some r := H
                      have A25 := Aside0.mk A250
                      clear A250
                      obtain rfl := Option.some.inj H
                      obtain ⟨Ao26, co26, eo26⟩ := Kd.R_slice HO_7.out
                      subst eo26
                      go_wp2_with (first | ((with_reducible refine gate_callee (f := 22) rfl ?_); refine goesL_ (some 45) rfl rfl Try.func22 (by kernel_rfl) rfl #[.slice Ao26 x7_2.length co26, .bool true, .int .i64 a2] rfl zm ?_; (with_reducible refine (tier_Slices.calls k2 _ _ x7_2 true a2 t419 _ ?side1 ?side2 A17.out).mono ?_); (case side1 => repeat (first | exact (Kd.R_reads' HO_7.out).2.2 | (with_reducible refine Kd.C_alloc ?_ _) | (with_reducible refine Kd.C_drewN ?_ _) | (with_reducible refine Kd.C_drew ?_))); (case side2 => exact (Kd.R_reads' HO_7.out).2.1); rintro e w27 ⟨v420, rfl, ho0, hb⟩; refine ⟨_, rfl, ?_⟩; have HO421 := Aside0.mk (Kd.R_lower ho0 (below_size (hq HB))); replace HO_7 := kb HO_7 hb; replace HB := bs HB hb; (try clear hb); (try clear hb2); (try clear hk); (try clear hi); (try clear ho0); obtain ⟨Ao28, co28, eo28⟩ := Kd.R_slice HO421.out; subst eo28) | ((with_reducible refine gate_callee (f := 24) rfl ?_); refine goesL_ (some 46) rfl rfl Try.func24 (by kernel_rfl) rfl #[.slice Ao28 t419.length co28, .int .i64 4392] rfl zm ?_; (with_reducible refine (tier_Grains.calls k2 _ _ t419 4392 t422 t423 t424 _ ?side1 ?side2 A18.out).mono ?_); (case side1 => repeat (first | exact (Kd.R_reads' HO421.out).2.2 | (with_reducible refine Kd.C_alloc ?_ _) | (with_reducible refine Kd.C_drewN ?_ _) | (with_reducible refine Kd.C_drew ?_))); (case side2 => exact (Kd.R_reads' HO421.out).2.1); rintro e w29 ⟨rfl, hb⟩; refine ⟨_, rfl, ?_⟩; replace HO_7 := kb HO_7 hb; replace HO421 := kb HO421 hb; replace HB := bs HB hb; (try clear hb); (try clear hb2); (try clear hk); (try clear hi)) | ((with_reducible refine gate_dst (N := 9) rfl ?_); (try (refine gate_guard (by rfl) ?_; dsimp only)); refine box_event ?hg (N := 9) ?hd (cs := #[.int .i64 0, .int .u64 0]) (t := 35) ?hr ?_; (case hd => rfl); (case hg => rfl); (case hr => first | (go_simp; done) | (go_simp; rfl)); intro gb425 hg w30 hbox hb; have BK425 := Aside0.mk (hbox); have GW425 := ge HB hg; have GE425 := ge HB hg; replace HO_7 := kb HO_7 hb; replace HO421 := kb HO421 hb; replace HB := bs HB hb; clear hb hbox hg; obtain ⟨hcz31_0, hcz31_1, hfz31_0, hfz31_1⟩ := cz2 BK425) | ((with_reducible refine gate_callee (f := 22) rfl ?_); refine goesL_ (some 52) rfl rfl Try.func22 (by kernel_rfl) rfl #[.slice Ao26 x7_2.length co26, .bool false, .int .i64 a2] rfl zm ?_; (with_reducible refine (tier_Slices.calls k2 _ _ x7_2 false a2 t426 _ ?side1 ?side2 A19.out).mono ?_); (case side1 => refine (Kd.R_reads' (e := 50) (base := w.heap.size) (ok := fun k_ => True) (n := x7_2.length) (c := co26) ?_).2.2; exact (by (with_reducible repeat (first | apply Kd.R_alloc | apply Kd.R_drewN | apply Kd.R_drew)); exact (Kd.R_mono (Kd.R_far (p := ⟨gb425, 1, none⟩) (Kd.R_far (p := ⟨gb425, 0, none⟩) (Kd.R_types HO_7.out BK425.out (by decide)) (fun _ hk => hk.2) (.int .i64 t422)) (fun _ hk => hk.2) (.int .u64 t423)) (fun _ h_ => h_.1)))); (case side2 => exact (Kd.R_reads' HO_7.out).2.1); rintro e w32 ⟨v427, rfl, ho0, hb⟩; refine ⟨_, rfl, ?_⟩; have HO428 := Aside0.mk (Kd.R_lower (Kd.R_new' ho0 (Kd.R_lt (by (with_reducible repeat (first | apply Kd.R_alloc | apply Kd.R_drewN | apply Kd.R_drew)); exact (Kd.R_mono (Kd.R_far (p := ⟨gb425, 1, none⟩) (Kd.R_far (p := ⟨gb425, 0, none⟩) (Kd.R_types HO421.out BK425.out (by decide)) (fun _ hk => hk.2) (.int .i64 t422)) (fun _ hk => hk.2) (.int .u64 t423)) (fun _ h_ => h_.1))))) (below_size (hq HB))); replace HO_7 := Aside0.mk (Kd.R_below (by (with_reducible repeat (first | apply Kd.R_alloc | apply Kd.R_drewN | apply Kd.R_drew)); exact (Kd.R_mono (Kd.R_far (p := ⟨gb425, 1, none⟩) (Kd.R_far (p := ⟨gb425, 0, none⟩) (Kd.R_types HO_7.out BK425.out (by decide)) (fun _ hk => hk.2) (.int .i64 t422)) (fun _ hk => hk.2) (.int .u64 t423)) (fun _ h_ => h_.1))) hb); replace HO421 := Aside0.mk (Kd.R_elder' (by (with_reducible repeat (first | apply Kd.R_alloc | apply Kd.R_drewN | apply Kd.R_drew)); exact (Kd.R_mono (Kd.R_far (p := ⟨gb425, 1, none⟩) (Kd.R_far (p := ⟨gb425, 0, none⟩) (Kd.R_types HO421.out BK425.out (by decide)) (fun _ hk => hk.2) (.int .i64 t422)) (fun _ hk => hk.2) (.int .u64 t423)) (fun _ h_ => h_.1))) (Kd.R_base ho0) hb); replace BK425 := bpb BK425 hb #[.int .i64 t422, .int .u64 t423]; replace HB := bs HB hb; (try clear hb); (try clear hb2); (try clear hk); (try clear hi); (try clear ho0); obtain ⟨Ao33, co33, eo33⟩ := Kd.R_slice HO428.out; subst eo33) | ((with_reducible refine gate_callee (f := 24) rfl ?_); refine goesL_ (some 53) rfl rfl Try.func24 (by kernel_rfl) rfl #[.slice Ao33 t426.length co33, .int .i64 4392] rfl zm ?_; (with_reducible refine (tier_Grains.calls k2 _ _ t426 4392 t429 t430 t431 _ ?side1 ?side2 A20.out).mono ?_); (case side1 => repeat (first | exact (Kd.R_reads' HO428.out).2.2 | (with_reducible refine Kd.C_alloc ?_ _) | (with_reducible refine Kd.C_drewN ?_ _) | (with_reducible refine Kd.C_drew ?_))); (case side2 => exact (Kd.R_reads' HO428.out).2.1); rintro e w34 ⟨rfl, hb⟩; refine ⟨_, rfl, ?_⟩; replace HO_7 := kb HO_7 hb; replace HO421 := kb HO421 hb; replace HO428 := kb HO428 hb; replace BK425 := bb BK425 hb; replace HB := bs HB hb; (try clear hb); (try clear hb2); (try clear hk); (try clear hi)) | ((with_reducible refine gate_dst (N := 11) rfl ?_); (try (refine gate_guard (by rfl) ?_; dsimp only)); refine box_event ?hg (N := 11) ?hd (cs := #[.int .i64 0, .int .u64 0]) (t := 35) ?hr ?_; (case hd => rfl); (case hg => rfl); (case hr => first | (go_simp; done) | (go_simp; rfl)); intro gb432 hg w35 hbox hb; have BK432 := Aside0.mk (hbox); have GW432 := ge HB hg; have GE432 := ge HB hg; have NB425_432 := nl BK425 hg; have NB432_425 := ng NB425_432; replace HO_7 := kb HO_7 hb; replace HO421 := kb HO421 hb; replace HO428 := kb HO428 hb; replace BK425 := bb BK425 hb; replace HB := bs HB hb; clear hb hbox hg; have hnb36 := NB432_425.out; have hnc36 := NB425_432.out; obtain ⟨hcz37_0, hcz37_1, hfz37_0, hfz37_1⟩ := cz2 BK432; obtain ⟨hcz38_0, hcz38_1, hfz38_0, hfz38_1⟩ := cz2 BK425) | (go_at_call 18; (with_reducible refine (corebanklaw14_live.calls  t433 _ A25.out).mono ?_); rintro e w39 ⟨rfl, hb⟩; replace HO_7 := Aside0.mk (Kd.R_below (by (with_reducible repeat (first | apply Kd.R_alloc | apply Kd.R_drewN | apply Kd.R_drew)); exact (Kd.R_mono (Kd.R_far (p := ⟨gb432, 1, none⟩) (Kd.R_far (p := ⟨gb432, 0, none⟩) (Kd.R_types HO_7.out BK432.out (by decide)) (fun _ hk => hk.2) (.int .i64 t429)) (fun _ hk => hk.2) (.int .u64 t430)) (fun _ h_ => h_.1))) hb); replace HO421 := Aside0.mk (Kd.R_below (by (with_reducible repeat (first | apply Kd.R_alloc | apply Kd.R_drewN | apply Kd.R_drew)); exact (Kd.R_mono (Kd.R_far (p := ⟨gb432, 1, none⟩) (Kd.R_far (p := ⟨gb432, 0, none⟩) (Kd.R_types HO421.out BK432.out (by decide)) (fun _ hk => hk.2) (.int .i64 t429)) (fun _ hk => hk.2) (.int .u64 t430)) (fun _ h_ => h_.1))) hb); replace HO428 := Aside0.mk (Kd.R_below (by (with_reducible repeat (first | apply Kd.R_alloc | apply Kd.R_drewN | apply Kd.R_drew)); exact (Kd.R_mono (Kd.R_far (p := ⟨gb432, 1, none⟩) (Kd.R_far (p := ⟨gb432, 0, none⟩) (Kd.R_types HO428.out BK432.out (by decide)) (fun _ hk => hk.2) (.int .i64 t429)) (fun _ hk => hk.2) (.int .u64 t430)) (fun _ h_ => h_.1))) hb); replace BK425 := bb BK425 hb; replace BK432 := bpb BK432 hb #[.int .i64 t429, .int .u64 t430]; replace HB := bs HB hb; (try clear hb); (try clear hb2); (try clear hk); (try clear hi)))
                      go_ret
                      exact ⟨by first | rfl | (simp [errW_none, errW_some] <;> rfl) | (simp [*, errW_none, errW_some] <;> rfl), hq HB⟩
                    · rw [if_neg c24] at H
                      have c24b0 : ((l0.length : Int) == 0) = false := beq_eq_false_iff_ne.mpr c24
                      have c24b1 : ((l0.length : Int) != 0) = true := bne_iff_ne.mpr c24
                      have c24b2 : ¬ (l0 = []) := fun h_ => c24 (by rw [h_]; rfl)
                      replace H := Option.bind_eq_some_iff.mp H
                      obtain ⟨t434, A400, H⟩ := H
                      replace H : (if t434 = a1 then ((corebanklaw14_live.f).bind fun t435 => (some t435)) else (some false)) = some r := H
                      have A40 := Aside0.mk A400
                      clear A400
                      by_cases c41 : t434 = a1
                      · rw [if_pos c41] at H
                        have c41b0 : (t434 == a1) = true := beq_iff_eq.mpr c41
                        have c41b1 : (t434 != a1) = false := bne_eq_false_iff_eq.mpr c41
                        clear c41
                        replace H := Option.bind_eq_some_iff.mp H
                        obtain ⟨t435, A420, H⟩ := H
                        replace H : (some t435) = some r := H
                        have A42 := Aside0.mk A420
                        clear A420
                        obtain rfl := Option.some.inj H
                        obtain ⟨Ao43, co43, eo43⟩ := Kd.R_slice HO_7.out
                        subst eo43
                        go_wp2_with (first | ((with_reducible refine gate_callee (f := 22) rfl ?_); refine goesL_ (some 45) rfl rfl Try.func22 (by kernel_rfl) rfl #[.slice Ao43 x7_2.length co43, .bool true, .int .i64 a2] rfl zm ?_; (with_reducible refine (tier_Slices.calls k2 _ _ x7_2 true a2 t419 _ ?side1 ?side2 A17.out).mono ?_); (case side1 => repeat (first | exact (Kd.R_reads' HO_7.out).2.2 | (with_reducible refine Kd.C_alloc ?_ _) | (with_reducible refine Kd.C_drewN ?_ _) | (with_reducible refine Kd.C_drew ?_))); (case side2 => exact (Kd.R_reads' HO_7.out).2.1); rintro e w44 ⟨v420, rfl, ho0, hb⟩; refine ⟨_, rfl, ?_⟩; have HO421 := Aside0.mk (Kd.R_lower ho0 (below_size (hq HB))); replace HO_7 := kb HO_7 hb; replace HB := bs HB hb; (try clear hb); (try clear hb2); (try clear hk); (try clear hi); (try clear ho0); obtain ⟨Ao45, co45, eo45⟩ := Kd.R_slice HO421.out; subst eo45) | ((with_reducible refine gate_callee (f := 24) rfl ?_); refine goesL_ (some 46) rfl rfl Try.func24 (by kernel_rfl) rfl #[.slice Ao45 t419.length co45, .int .i64 4392] rfl zm ?_; (with_reducible refine (tier_Grains.calls k2 _ _ t419 4392 t422 t423 t424 _ ?side1 ?side2 A18.out).mono ?_); (case side1 => repeat (first | exact (Kd.R_reads' HO421.out).2.2 | (with_reducible refine Kd.C_alloc ?_ _) | (with_reducible refine Kd.C_drewN ?_ _) | (with_reducible refine Kd.C_drew ?_))); (case side2 => exact (Kd.R_reads' HO421.out).2.1); rintro e w46 ⟨rfl, hb⟩; refine ⟨_, rfl, ?_⟩; replace HO_7 := kb HO_7 hb; replace HO421 := kb HO421 hb; replace HB := bs HB hb; (try clear hb); (try clear hb2); (try clear hk); (try clear hi)) | ((with_reducible refine gate_dst (N := 9) rfl ?_); (try (refine gate_guard (by rfl) ?_; dsimp only)); refine box_event ?hg (N := 9) ?hd (cs := #[.int .i64 0, .int .u64 0]) (t := 35) ?hr ?_; (case hd => rfl); (case hg => rfl); (case hr => first | (go_simp; done) | (go_simp; rfl)); intro gb425 hg w47 hbox hb; have BK425 := Aside0.mk (hbox); have GW425 := ge HB hg; have GE425 := ge HB hg; replace HO_7 := kb HO_7 hb; replace HO421 := kb HO421 hb; replace HB := bs HB hb; clear hb hbox hg; obtain ⟨hcz48_0, hcz48_1, hfz48_0, hfz48_1⟩ := cz2 BK425) | ((with_reducible refine gate_callee (f := 22) rfl ?_); refine goesL_ (some 52) rfl rfl Try.func22 (by kernel_rfl) rfl #[.slice Ao43 x7_2.length co43, .bool false, .int .i64 a2] rfl zm ?_; (with_reducible refine (tier_Slices.calls k2 _ _ x7_2 false a2 t426 _ ?side1 ?side2 A19.out).mono ?_); (case side1 => refine (Kd.R_reads' (e := 50) (base := w.heap.size) (ok := fun k_ => True) (n := x7_2.length) (c := co43) ?_).2.2; exact (by (with_reducible repeat (first | apply Kd.R_alloc | apply Kd.R_drewN | apply Kd.R_drew)); exact (Kd.R_mono (Kd.R_far (p := ⟨gb425, 1, none⟩) (Kd.R_far (p := ⟨gb425, 0, none⟩) (Kd.R_types HO_7.out BK425.out (by decide)) (fun _ hk => hk.2) (.int .i64 t422)) (fun _ hk => hk.2) (.int .u64 t423)) (fun _ h_ => h_.1)))); (case side2 => exact (Kd.R_reads' HO_7.out).2.1); rintro e w49 ⟨v427, rfl, ho0, hb⟩; refine ⟨_, rfl, ?_⟩; have HO428 := Aside0.mk (Kd.R_lower (Kd.R_new' ho0 (Kd.R_lt (by (with_reducible repeat (first | apply Kd.R_alloc | apply Kd.R_drewN | apply Kd.R_drew)); exact (Kd.R_mono (Kd.R_far (p := ⟨gb425, 1, none⟩) (Kd.R_far (p := ⟨gb425, 0, none⟩) (Kd.R_types HO421.out BK425.out (by decide)) (fun _ hk => hk.2) (.int .i64 t422)) (fun _ hk => hk.2) (.int .u64 t423)) (fun _ h_ => h_.1))))) (below_size (hq HB))); replace HO_7 := Aside0.mk (Kd.R_below (by (with_reducible repeat (first | apply Kd.R_alloc | apply Kd.R_drewN | apply Kd.R_drew)); exact (Kd.R_mono (Kd.R_far (p := ⟨gb425, 1, none⟩) (Kd.R_far (p := ⟨gb425, 0, none⟩) (Kd.R_types HO_7.out BK425.out (by decide)) (fun _ hk => hk.2) (.int .i64 t422)) (fun _ hk => hk.2) (.int .u64 t423)) (fun _ h_ => h_.1))) hb); replace HO421 := Aside0.mk (Kd.R_elder' (by (with_reducible repeat (first | apply Kd.R_alloc | apply Kd.R_drewN | apply Kd.R_drew)); exact (Kd.R_mono (Kd.R_far (p := ⟨gb425, 1, none⟩) (Kd.R_far (p := ⟨gb425, 0, none⟩) (Kd.R_types HO421.out BK425.out (by decide)) (fun _ hk => hk.2) (.int .i64 t422)) (fun _ hk => hk.2) (.int .u64 t423)) (fun _ h_ => h_.1))) (Kd.R_base ho0) hb); replace BK425 := bpb BK425 hb #[.int .i64 t422, .int .u64 t423]; replace HB := bs HB hb; (try clear hb); (try clear hb2); (try clear hk); (try clear hi); (try clear ho0); obtain ⟨Ao50, co50, eo50⟩ := Kd.R_slice HO428.out; subst eo50) | ((with_reducible refine gate_callee (f := 24) rfl ?_); refine goesL_ (some 53) rfl rfl Try.func24 (by kernel_rfl) rfl #[.slice Ao50 t426.length co50, .int .i64 4392] rfl zm ?_; (with_reducible refine (tier_Grains.calls k2 _ _ t426 4392 t429 t430 t431 _ ?side1 ?side2 A20.out).mono ?_); (case side1 => repeat (first | exact (Kd.R_reads' HO428.out).2.2 | (with_reducible refine Kd.C_alloc ?_ _) | (with_reducible refine Kd.C_drewN ?_ _) | (with_reducible refine Kd.C_drew ?_))); (case side2 => exact (Kd.R_reads' HO428.out).2.1); rintro e w51 ⟨rfl, hb⟩; refine ⟨_, rfl, ?_⟩; replace HO_7 := kb HO_7 hb; replace HO421 := kb HO421 hb; replace HO428 := kb HO428 hb; replace BK425 := bb BK425 hb; replace HB := bs HB hb; (try clear hb); (try clear hb2); (try clear hk); (try clear hi)) | ((with_reducible refine gate_dst (N := 11) rfl ?_); (try (refine gate_guard (by rfl) ?_; dsimp only)); refine box_event ?hg (N := 11) ?hd (cs := #[.int .i64 0, .int .u64 0]) (t := 35) ?hr ?_; (case hd => rfl); (case hg => rfl); (case hr => first | (go_simp; done) | (go_simp; rfl)); intro gb432 hg w52 hbox hb; have BK432 := Aside0.mk (hbox); have GW432 := ge HB hg; have GE432 := ge HB hg; have NB425_432 := nl BK425 hg; have NB432_425 := ng NB425_432; replace HO_7 := kb HO_7 hb; replace HO421 := kb HO421 hb; replace HO428 := kb HO428 hb; replace BK425 := bb BK425 hb; replace HB := bs HB hb; clear hb hbox hg; have hnb53 := NB432_425.out; have hnc53 := NB425_432.out; obtain ⟨hcz54_0, hcz54_1, hfz54_0, hfz54_1⟩ := cz2 BK432; obtain ⟨hcz55_0, hcz55_1, hfz55_0, hfz55_1⟩ := cz2 BK425) | (go_at_call 19; (with_reducible refine (tier_Rate.calls k2 _ _ x7_2 a2 t434 _ ?side1 ?side2 A40.out).mono ?_); (case side1 => refine (Kd.R_reads' (e := 50) (base := w.heap.size) (ok := fun k_ => True) (n := x7_2.length) (c := co43) ?_).2.2; exact (by (with_reducible repeat (first | apply Kd.R_alloc | apply Kd.R_drewN | apply Kd.R_drew)); exact (Kd.R_mono (Kd.R_far (p := ⟨gb432, 1, none⟩) (Kd.R_far (p := ⟨gb432, 0, none⟩) (Kd.R_types HO_7.out BK432.out (by decide)) (fun _ hk => hk.2) (.int .i64 t429)) (fun _ hk => hk.2) (.int .u64 t430)) (fun _ h_ => h_.1)))); (case side2 => exact (Kd.R_reads' HO_7.out).2.1); rintro e w56 ⟨rfl, hb⟩; replace HO_7 := Aside0.mk (Kd.R_below (by (with_reducible repeat (first | apply Kd.R_alloc | apply Kd.R_drewN | apply Kd.R_drew)); exact (Kd.R_mono (Kd.R_far (p := ⟨gb432, 1, none⟩) (Kd.R_far (p := ⟨gb432, 0, none⟩) (Kd.R_types HO_7.out BK432.out (by decide)) (fun _ hk => hk.2) (.int .i64 t429)) (fun _ hk => hk.2) (.int .u64 t430)) (fun _ h_ => h_.1))) hb); replace HO421 := Aside0.mk (Kd.R_below (by (with_reducible repeat (first | apply Kd.R_alloc | apply Kd.R_drewN | apply Kd.R_drew)); exact (Kd.R_mono (Kd.R_far (p := ⟨gb432, 1, none⟩) (Kd.R_far (p := ⟨gb432, 0, none⟩) (Kd.R_types HO421.out BK432.out (by decide)) (fun _ hk => hk.2) (.int .i64 t429)) (fun _ hk => hk.2) (.int .u64 t430)) (fun _ h_ => h_.1))) hb); replace HO428 := Aside0.mk (Kd.R_below (by (with_reducible repeat (first | apply Kd.R_alloc | apply Kd.R_drewN | apply Kd.R_drew)); exact (Kd.R_mono (Kd.R_far (p := ⟨gb432, 1, none⟩) (Kd.R_far (p := ⟨gb432, 0, none⟩) (Kd.R_types HO428.out BK432.out (by decide)) (fun _ hk => hk.2) (.int .i64 t429)) (fun _ hk => hk.2) (.int .u64 t430)) (fun _ h_ => h_.1))) hb); replace BK425 := bb BK425 hb; replace BK432 := bpb BK432 hb #[.int .i64 t429, .int .u64 t430]; replace HB := bs HB hb; (try clear hb); (try clear hb2); (try clear hk); (try clear hi)) | (go_at_call 18; (with_reducible refine (corebanklaw14_live.calls  t435 _ A42.out).mono ?_); rintro e w57 ⟨rfl, hb⟩; replace HO_7 := kb HO_7 hb; replace HO421 := kb HO421 hb; replace HO428 := kb HO428 hb; replace BK425 := bb BK425 hb; replace BK432 := bb BK432 hb; replace HB := bs HB hb; (try clear hb); (try clear hb2); (try clear hk); (try clear hi)))
                        go_ret
                        exact ⟨by first | rfl | (simp [errW_none, errW_some] <;> rfl) | (simp [*, errW_none, errW_some] <;> rfl), hq HB⟩
                      · rw [if_neg c41] at H
                        have c41b0 : (t434 == a1) = false := beq_eq_false_iff_ne.mpr c41
                        have c41b1 : (t434 != a1) = true := bne_iff_ne.mpr c41
                        exact absurd ((Option.some.inj H).trans HT.out) (by decide)
                  · rw [if_neg c23] at H
                    have c23b0 : (t422 == t429 && (t423 == t430)) = false := by simpa using c23
                    (try (have c23b1 : decide (t422 = t429 && (t423 == t430)) = false := by simpa using c23))
                    (try (have c23b2 : (t422 == t429 && (t423 == t430)) = false := by simpa using c23))
                    (try (have c23b3 : ¬ (t422 = t429 && (t423 == t430)) := by simpa using c23))
                    clear c23
                    exact absurd ((Option.some.inj H).trans HT.out) (by decide)
                · rw [if_neg c22] at H
                  have c22b0 : (t431 == 0) = false := beq_eq_false_iff_ne.mpr c22
                  have c22b1 : (t431 != 0) = true := bne_iff_ne.mpr c22
                  exact absurd ((Option.some.inj H).trans HT.out) (by decide)
              · rw [if_neg c21] at H
                have c21b0 : (t424 == 0) = false := beq_eq_false_iff_ne.mpr c21
                have c21b1 : (t424 != 0) = true := bne_iff_ne.mpr c21
                exact absurd ((Option.some.inj H).trans HT.out) (by decide)

end Go.Proofs.Ytlmabdiodopidaa.P
