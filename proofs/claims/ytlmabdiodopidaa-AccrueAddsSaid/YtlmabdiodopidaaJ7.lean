/- Texts of this seat, joined: Px6, Gr, RowIn, Mov, At, Acc2, Prd, Daily, Px12, Px10, Px18, Px19, Live14. Lemmas for the claim's theorem. -/
import Derived.RangeFuncNested
import Derived.RangeFuncLeaves
import Derived.Shelf.Abstract
import Derived.WalkKit
import Derived.OwnWalkIn
import Derived.TacticsInMore
import Derived.LoopNIn
import Derived.LoopIn
import Derived.BigFrameIn
import Derived.BigQuiet
import Derived.Deep.CutBlock
import Derived.Deep.DeepCutAuto
import Derived.Test.YtlmabdiodopidaaJ6
section
set_option linter.unusedVariables false
set_option linter.unusedSimpArgs false
namespace Go.Proofs.Ytlmabdiodopidaa.P
open Go.Proofs.Ytlmabdiodopidaa.G
attribute [local go_sem high] un_not64 un_noti run_add64
open Go.RowKit Go.Proofs.YtlmabdiodopidaaW.PrintWords Go.Proofs.YtlmabdiodopidaaW.PrintLast Go.Proofs.YtlmabdiodopidaaW.PrintMore
attribute [local go_sem] max2_int min2_int max_two min_two max_three min_three max_four min_four   -- for this text's walks alone
set_option linter.unusedVariables false
set_option linter.unusedSimpArgs false

/-! ### daycount_Weight: function 91 -/
def daycount_Weight.f (k : Nat) (a0 : Int) (a1 : Int) : Option (Int) := (date_Valid.f a1).bind fun t114 => (if t114 = true then ((date_Civil.f k a1).bind fun bt115 => (if a0 = 3 then ((date_Leap.f bt115.1).bind fun t119 => (if t119 = true then (some 4380) else (some 4392))) else (if a0 = 2 then (some 4392) else (if a0 = 4 then ((daycount_Thirty.f k a1 (wrap64 (a1 + 1))).bind fun t118 => (some (wrap64 (t118 * 4453)))) else (if a0 = 1 then (some (1 * 4453)) else (some 0)))))) else (some 0))
theorem daycount_Weight.mono : ∀ a0 a1 k, LeO (daycount_Weight.f k a0 a1) (daycount_Weight.f (k + 1) a0 a1) := by
  intro a0 a1 k
  unfold daycount_Weight.f
  repeat' first
      | (with_reducible exact date_Civil.mono _ _)
      | (with_reducible exact daycount_Thirty.mono _ _ _)
      | (with_reducible exact LeO.refl _)
      | (with_reducible exact LeO.none _)
      | (with_reducible refine LeO.ite ?_ ?_)
      | (with_reducible refine LeO.bind ?_ (fun _ => ?_))
      | exact date_Civil.mono _ _
      | exact daycount_Thirty.mono _ _ _
      | exact LeO.none _
      | refine LeO.ite ?_ ?_
      | refine LeO.bind ?_ (fun _ => ?_)
set_option maxHeartbeats 8000000 in
set_option maxRecDepth 100000 in
theorem daycount_Weight.calls (k : Nat) (a0 : Int) (a1 : Int) (r : Int) (w : World) (h : daycount_Weight.f k a0 a1 = some r) :
    Calls Try.prog 91 #[.int .i64 a0, .int .i64 a1] w fun e w' => e = .returned (.int .i64 r) ∧ Below w.heap.size w w' := by
  have HB := Aside0.mk (Below.refl w.heap.size w)
  have H : ((date_Valid.f a1).bind fun t114 => (if t114 = true then ((date_Civil.f k a1).bind fun bt115 => (if a0 = 3 then ((date_Leap.f bt115.1).bind fun t119 => (if t119 = true then (some 4380) else (some 4392))) else (if a0 = 2 then (some 4392) else (if a0 = 4 then ((daycount_Thirty.f k a1 (wrap64 (a1 + 1))).bind fun t118 => (some (wrap64 (t118 * 4453)))) else (if a0 = 1 then (some (1 * 4453)) else (some 0)))))) else (some 0))) = some r := h
  clear h
  replace H := Option.bind_eq_some_iff.mp H
  obtain ⟨t114, A30, H⟩ := H
  replace H : (if t114 = true then ((date_Civil.f k a1).bind fun bt115 => (if a0 = 3 then ((date_Leap.f bt115.1).bind fun t119 => (if t119 = true then (some 4380) else (some 4392))) else (if a0 = 2 then (some 4392) else (if a0 = 4 then ((daycount_Thirty.f k a1 (wrap64 (a1 + 1))).bind fun t118 => (some (wrap64 (t118 * 4453)))) else (if a0 = 1 then (some (1 * 4453)) else (some 0)))))) else (some 0)) = some r := H
  have A3 := Aside0.mk A30
  clear A30
  by_cases c4 : t114 = true
  · subst c4
    have H1 : ((date_Civil.f k a1).bind fun bt115 => (if a0 = 3 then ((date_Leap.f bt115.1).bind fun t119 => (if t119 = true then (some 4380) else (some 4392))) else (if a0 = 2 then (some 4392) else (if a0 = 4 then ((daycount_Thirty.f k a1 (wrap64 (a1 + 1))).bind fun t118 => (some (wrap64 (t118 * 4453)))) else (if a0 = 1 then (some (1 * 4453)) else (some 0)))))) = some r := by rw [if_pos rfl] at H; exact H
    clear H
    have H := H1
    clear H1
    replace H := Option.bind_eq_some_iff.mp H
    obtain ⟨⟨t115, t116, t117⟩, A50, H⟩ := H
    replace H : (if a0 = 3 then ((date_Leap.f t115).bind fun t119 => (if t119 = true then (some 4380) else (some 4392))) else (if a0 = 2 then (some 4392) else (if a0 = 4 then ((daycount_Thirty.f k a1 (wrap64 (a1 + 1))).bind fun t118 => (some (wrap64 (t118 * 4453)))) else (if a0 = 1 then (some (1 * 4453)) else (some 0))))) = some r := H
    have A5 := Aside0.mk A50
    clear A50
    by_cases c6 : a0 = 3
    · rw [if_pos c6] at H
      have c6b0 : (a0 == 3) = true := beq_iff_eq.mpr c6
      have c6b1 : (a0 != 3) = false := bne_eq_false_iff_eq.mpr c6
      clear c6
      replace H := Option.bind_eq_some_iff.mp H
      obtain ⟨t119, A70, H⟩ := H
      replace H : (if t119 = true then (some 4380) else (some 4392)) = some r := H
      have A7 := Aside0.mk A70
      clear A70
      by_cases c8 : t119 = true
      · subst c8
        have H1 : (some 4380) = some r := by rw [if_pos rfl] at H; exact H
        clear H
        have H := H1
        clear H1
        obtain rfl := Option.some.inj H
        go_enter Try.func91, Try.ntmps91
        go_wp2_with (first | ((with_reducible refine gate_callee (f := 52) rfl ?_); refine goesL_ (some 10) rfl rfl Try.func52 (by kernel_rfl) rfl #[.int .i64 a1] rfl zm ?_; (with_reducible refine (date_Valid.calls a1 true _ A3.out).mono ?_); rintro e w' ⟨rfl, ⟨nd, rfl⟩⟩; refine ⟨_, rfl, ?_⟩) | ((with_reducible refine gate_callee (f := 98) rfl ?_); refine goesL_ (some 14) rfl rfl Try.func98 (by kernel_rfl) rfl #[.int .i64 a1] rfl zm ?_; (with_reducible refine (date_Civil.calls k a1 t115 t116 t117 _ A5.out).mono ?_); rintro e w9 ⟨rfl, hb⟩; refine ⟨_, rfl, ?_⟩; replace HB := bs HB hb; (try clear hb); (try clear hb2); (try clear hk); (try clear hi)) | ((with_reducible refine gate_callee (f := 99) rfl ?_); refine goesL_ (some 28) rfl rfl Try.func99 (by kernel_rfl) rfl #[.int .i64 t115] rfl zm ?_; (with_reducible refine (date_Leap.calls t115 true _ A7.out).mono ?_); rintro e w' ⟨rfl, ⟨nd, rfl⟩⟩; refine ⟨_, rfl, ?_⟩))
        go_ret
        exact ⟨by first | rfl | (simp [errW_none, errW_some] <;> rfl) | (simp [*, errW_none, errW_some] <;> rfl), hq HB⟩
      · replace c8 := Bool.eq_false_iff.mpr c8
        subst c8
        have H1 : (some 4392) = some r := by rw [if_neg (show ¬ (false = true) by decide)] at H; exact H
        clear H
        have H := H1
        clear H1
        obtain rfl := Option.some.inj H
        go_enter Try.func91, Try.ntmps91
        go_wp2_with (first | ((with_reducible refine gate_callee (f := 52) rfl ?_); refine goesL_ (some 10) rfl rfl Try.func52 (by kernel_rfl) rfl #[.int .i64 a1] rfl zm ?_; (with_reducible refine (date_Valid.calls a1 true _ A3.out).mono ?_); rintro e w' ⟨rfl, ⟨nd, rfl⟩⟩; refine ⟨_, rfl, ?_⟩) | ((with_reducible refine gate_callee (f := 98) rfl ?_); refine goesL_ (some 14) rfl rfl Try.func98 (by kernel_rfl) rfl #[.int .i64 a1] rfl zm ?_; (with_reducible refine (date_Civil.calls k a1 t115 t116 t117 _ A5.out).mono ?_); rintro e w10 ⟨rfl, hb⟩; refine ⟨_, rfl, ?_⟩; replace HB := bs HB hb; (try clear hb); (try clear hb2); (try clear hk); (try clear hi)) | ((with_reducible refine gate_callee (f := 99) rfl ?_); refine goesL_ (some 28) rfl rfl Try.func99 (by kernel_rfl) rfl #[.int .i64 t115] rfl zm ?_; (with_reducible refine (date_Leap.calls t115 false _ A7.out).mono ?_); rintro e w' ⟨rfl, ⟨nd, rfl⟩⟩; refine ⟨_, rfl, ?_⟩))
        go_ret
        exact ⟨by first | rfl | (simp [errW_none, errW_some] <;> rfl) | (simp [*, errW_none, errW_some] <;> rfl), hq HB⟩
    · rw [if_neg c6] at H
      have c6b0 : (a0 == 3) = false := beq_eq_false_iff_ne.mpr c6
      have c6b1 : (a0 != 3) = true := bne_iff_ne.mpr c6
      by_cases c11 : a0 = 2
      · rw [if_pos c11] at H
        have c11b0 : (a0 == 2) = true := beq_iff_eq.mpr c11
        have c11b1 : (a0 != 2) = false := bne_eq_false_iff_eq.mpr c11
        clear c11
        obtain rfl := Option.some.inj H
        go_enter Try.func91, Try.ntmps91
        go_wp2_with (first | ((with_reducible refine gate_callee (f := 52) rfl ?_); refine goesL_ (some 10) rfl rfl Try.func52 (by kernel_rfl) rfl #[.int .i64 a1] rfl zm ?_; (with_reducible refine (date_Valid.calls a1 true _ A3.out).mono ?_); rintro e w' ⟨rfl, ⟨nd, rfl⟩⟩; refine ⟨_, rfl, ?_⟩) | ((with_reducible refine gate_callee (f := 98) rfl ?_); refine goesL_ (some 14) rfl rfl Try.func98 (by kernel_rfl) rfl #[.int .i64 a1] rfl zm ?_; (with_reducible refine (date_Civil.calls k a1 t115 t116 t117 _ A5.out).mono ?_); rintro e w12 ⟨rfl, hb⟩; refine ⟨_, rfl, ?_⟩; replace HB := bs HB hb; (try clear hb); (try clear hb2); (try clear hk); (try clear hi)))
        go_ret
        exact ⟨by first | rfl | (simp [errW_none, errW_some] <;> rfl) | (simp [*, errW_none, errW_some] <;> rfl), hq HB⟩
      · rw [if_neg c11] at H
        have c11b0 : (a0 == 2) = false := beq_eq_false_iff_ne.mpr c11
        have c11b1 : (a0 != 2) = true := bne_iff_ne.mpr c11
        by_cases c13 : a0 = 4
        · rw [if_pos c13] at H
          have c13b0 : (a0 == 4) = true := beq_iff_eq.mpr c13
          have c13b1 : (a0 != 4) = false := bne_eq_false_iff_eq.mpr c13
          clear c13
          replace H := Option.bind_eq_some_iff.mp H
          obtain ⟨t118, A140, H⟩ := H
          replace H : (some (wrap64 (t118 * 4453))) = some r := H
          have A14 := Aside0.mk A140
          clear A140
          obtain rfl := Option.some.inj H
          go_enter Try.func91, Try.ntmps91
          go_wp2_with (first | ((with_reducible refine gate_callee (f := 52) rfl ?_); refine goesL_ (some 10) rfl rfl Try.func52 (by kernel_rfl) rfl #[.int .i64 a1] rfl zm ?_; (with_reducible refine (date_Valid.calls a1 true _ A3.out).mono ?_); rintro e w' ⟨rfl, ⟨nd, rfl⟩⟩; refine ⟨_, rfl, ?_⟩) | ((with_reducible refine gate_callee (f := 98) rfl ?_); refine goesL_ (some 14) rfl rfl Try.func98 (by kernel_rfl) rfl #[.int .i64 a1] rfl zm ?_; (with_reducible refine (date_Civil.calls k a1 t115 t116 t117 _ A5.out).mono ?_); rintro e w15 ⟨rfl, hb⟩; refine ⟨_, rfl, ?_⟩; replace HB := bs HB hb; (try clear hb); (try clear hb2); (try clear hk); (try clear hi)) | ((with_reducible refine gate_callee (f := 100) rfl ?_); refine goesL_ (some 32) rfl rfl Try.func100 (by kernel_rfl) rfl #[.int .i64 a1, .int .i64 (wrap64 (a1 + 1))] rfl zm ?_; (with_reducible refine (daycount_Thirty.calls k a1 (wrap64 (a1 + 1)) t118 _ A14.out).mono ?_); rintro e w16 ⟨rfl, hb⟩; refine ⟨_, rfl, ?_⟩; replace HB := bs HB hb; (try clear hb); (try clear hb2); (try clear hk); (try clear hi)))
          go_ret
          exact ⟨by first | rfl | (simp [errW_none, errW_some] <;> rfl) | (simp [*, errW_none, errW_some] <;> rfl), hq HB⟩
        · rw [if_neg c13] at H
          have c13b0 : (a0 == 4) = false := beq_eq_false_iff_ne.mpr c13
          have c13b1 : (a0 != 4) = true := bne_iff_ne.mpr c13
          by_cases c17 : a0 = 1
          · rw [if_pos c17] at H
            have c17b0 : (a0 == 1) = true := beq_iff_eq.mpr c17
            have c17b1 : (a0 != 1) = false := bne_eq_false_iff_eq.mpr c17
            clear c17
            obtain rfl := Option.some.inj H
            go_enter Try.func91, Try.ntmps91
            go_wp2_with (first | ((with_reducible refine gate_callee (f := 52) rfl ?_); refine goesL_ (some 10) rfl rfl Try.func52 (by kernel_rfl) rfl #[.int .i64 a1] rfl zm ?_; (with_reducible refine (date_Valid.calls a1 true _ A3.out).mono ?_); rintro e w' ⟨rfl, ⟨nd, rfl⟩⟩; refine ⟨_, rfl, ?_⟩) | ((with_reducible refine gate_callee (f := 98) rfl ?_); refine goesL_ (some 14) rfl rfl Try.func98 (by kernel_rfl) rfl #[.int .i64 a1] rfl zm ?_; (with_reducible refine (date_Civil.calls k a1 t115 t116 t117 _ A5.out).mono ?_); rintro e w18 ⟨rfl, hb⟩; refine ⟨_, rfl, ?_⟩; replace HB := bs HB hb; (try clear hb); (try clear hb2); (try clear hk); (try clear hi)))
            go_ret
            exact ⟨by first | rfl | (simp [errW_none, errW_some] <;> rfl) | (simp [*, errW_none, errW_some] <;> rfl), hq HB⟩
          · rw [if_neg c17] at H
            have c17b0 : (a0 == 1) = false := beq_eq_false_iff_ne.mpr c17
            have c17b1 : (a0 != 1) = true := bne_iff_ne.mpr c17
            obtain rfl := Option.some.inj H
            go_enter Try.func91, Try.ntmps91
            go_wp2_with (first | ((with_reducible refine gate_callee (f := 52) rfl ?_); refine goesL_ (some 10) rfl rfl Try.func52 (by kernel_rfl) rfl #[.int .i64 a1] rfl zm ?_; (with_reducible refine (date_Valid.calls a1 true _ A3.out).mono ?_); rintro e w' ⟨rfl, ⟨nd, rfl⟩⟩; refine ⟨_, rfl, ?_⟩) | ((with_reducible refine gate_callee (f := 98) rfl ?_); refine goesL_ (some 14) rfl rfl Try.func98 (by kernel_rfl) rfl #[.int .i64 a1] rfl zm ?_; (with_reducible refine (date_Civil.calls k a1 t115 t116 t117 _ A5.out).mono ?_); rintro e w19 ⟨rfl, hb⟩; refine ⟨_, rfl, ?_⟩; replace HB := bs HB hb; (try clear hb); (try clear hb2); (try clear hk); (try clear hi)))
            go_ret
            exact ⟨by first | rfl | (simp [errW_none, errW_some] <;> rfl) | (simp [*, errW_none, errW_some] <;> rfl), hq HB⟩
  · replace c4 := Bool.eq_false_iff.mpr c4
    subst c4
    have H1 : (some 0) = some r := by rw [if_neg (show ¬ (false = true) by decide)] at H; exact H
    clear H
    have H := H1
    clear H1
    obtain rfl := Option.some.inj H
    go_enter Try.func91, Try.ntmps91
    go_wp2_with (first | ((with_reducible refine gate_callee (f := 52) rfl ?_); refine goesL_ (some 10) rfl rfl Try.func52 (by kernel_rfl) rfl #[.int .i64 a1] rfl zm ?_; (with_reducible refine (date_Valid.calls a1 false _ A3.out).mono ?_); rintro e w' ⟨rfl, ⟨nd, rfl⟩⟩; refine ⟨_, rfl, ?_⟩))
    go_ret
    exact ⟨by first | rfl | (simp [errW_none, errW_some] <;> rfl) | (simp [*, errW_none, errW_some] <;> rfl), hq HB⟩

/-! ### corebankref04_Valid: function 55 -/
def corebankref04_Valid.f (a0 : Int) : Option (Bool) := if a0 ≥ 0 then (some (decide (a0 ≤ 73048))) else (some false)
set_option maxHeartbeats 8000000 in
set_option maxRecDepth 100000 in
theorem corebankref04_Valid.calls (a0 : Int) (r : Bool) (w : World) (h : corebankref04_Valid.f a0 = some r) :
    Calls Try.prog 55 #[.int .i64 a0] w fun e w' => e = .returned (.bool r) ∧ Drawn0 w w' := by
  have H : (if a0 ≥ 0 then (some (decide (a0 ≤ 73048))) else (some false)) = some r := h
  clear h
  by_cases c2 : a0 ≥ 0
  · rw [if_pos c2] at H
    have c2b0 : decide (0 ≤ a0) = true := decide_eq_true c2
    clear c2
    obtain rfl := Option.some.inj H
    go_enter Try.func55, Try.ntmps55
    go_wp2
    go_ret
    exact ⟨by first | rfl | (simp; done) | (simp [*]; done), by repeat (first | exact Drawn0.refl _ | apply Drawn0.step)⟩
  · rw [if_neg c2] at H
    have c2b0 : decide (0 ≤ a0) = false := decide_eq_false c2
    clear c2
    obtain rfl := Option.some.inj H
    go_enter Try.func55, Try.ntmps55
    go_wp2
    go_ret
    exact ⟨by first | rfl | (simp; done) | (simp [*]; done), by repeat (first | exact Drawn0.refl _ | apply Drawn0.step)⟩

/-! ### corebankref04_Leap: function 83 -/
def corebankref04_Leap.f (a0 : Int) : Option (Bool) := if (Int.tmod a0 4) = 0 then (if (Int.tmod a0 100) = 0 then (some ((Int.tmod a0 400) == 0)) else (some true)) else (some false)
set_option maxHeartbeats 8000000 in
set_option maxRecDepth 100000 in
theorem corebankref04_Leap.calls (a0 : Int) (r : Bool) (w : World) (h : corebankref04_Leap.f a0 = some r) :
    Calls Try.prog 83 #[.int .i64 a0] w fun e w' => e = .returned (.bool r) ∧ Drawn0 w w' := by
  have H : (if (Int.tmod a0 4) = 0 then (if (Int.tmod a0 100) = 0 then (some ((Int.tmod a0 400) == 0)) else (some true)) else (some false)) = some r := h
  clear h
  by_cases c2 : (Int.tmod a0 4) = 0
  · rw [if_pos c2] at H
    have c2b0 : ((Int.tmod a0 4) == 0) = true := beq_iff_eq.mpr c2
    have c2b1 : ((Int.tmod a0 4) != 0) = false := bne_eq_false_iff_eq.mpr c2
    clear c2
    by_cases c3 : (Int.tmod a0 100) = 0
    · rw [if_pos c3] at H
      have c3b0 : ((Int.tmod a0 100) == 0) = true := beq_iff_eq.mpr c3
      have c3b1 : ((Int.tmod a0 100) != 0) = false := bne_eq_false_iff_eq.mpr c3
      clear c3
      obtain rfl := Option.some.inj H
      go_enter Try.func83, Try.ntmps83
      go_wp2
      go_ret
      exact ⟨by first | rfl | (simp; done) | (simp [*]; done), by repeat (first | exact Drawn0.refl _ | apply Drawn0.step)⟩
    · rw [if_neg c3] at H
      have c3b0 : ((Int.tmod a0 100) == 0) = false := beq_eq_false_iff_ne.mpr c3
      have c3b1 : ((Int.tmod a0 100) != 0) = true := bne_iff_ne.mpr c3
      obtain rfl := Option.some.inj H
      go_enter Try.func83, Try.ntmps83
      go_wp2
      go_ret
      exact ⟨by first | rfl | (simp; done) | (simp [*]; done), by repeat (first | exact Drawn0.refl _ | apply Drawn0.step)⟩
  · rw [if_neg c2] at H
    have c2b0 : ((Int.tmod a0 4) == 0) = false := beq_eq_false_iff_ne.mpr c2
    have c2b1 : ((Int.tmod a0 4) != 0) = true := bne_iff_ne.mpr c2
    obtain rfl := Option.some.inj H
    go_enter Try.func83, Try.ntmps83
    go_wp2
    go_ret
    exact ⟨by first | rfl | (simp; done) | (simp [*]; done), by repeat (first | exact Drawn0.refl _ | apply Drawn0.step)⟩

/-! ### corebankref04_yearLength: function 92 -/
def corebankref04_yearLength.f (a0 : Int) : Option (Int) := (corebankref04_Leap.f a0).bind fun t120 => (if t120 = true then (some 366) else (some 365))
set_option maxHeartbeats 8000000 in
set_option maxRecDepth 100000 in
theorem corebankref04_yearLength.calls (a0 : Int) (r : Int) (w : World) (h : corebankref04_yearLength.f a0 = some r) :
    Calls Try.prog 92 #[.int .i64 a0] w fun e w' => e = .returned (.int .i64 r) ∧ Drawn0 w w' := by
  have H : ((corebankref04_Leap.f a0).bind fun t120 => (if t120 = true then (some 366) else (some 365))) = some r := h
  clear h
  replace H := Option.bind_eq_some_iff.mp H
  obtain ⟨t120, A20, H⟩ := H
  replace H : (if t120 = true then (some 366) else (some 365)) = some r := H
  have A2 := Aside0.mk A20
  clear A20
  by_cases c3 : t120 = true
  · subst c3
    have H1 : (some 366) = some r := by rw [if_pos rfl] at H; exact H
    clear H
    have H := H1
    clear H1
    obtain rfl := Option.some.inj H
    go_enter Try.func92, Try.ntmps92
    go_wp2_with (first | ((with_reducible refine gate_callee (f := 83) rfl ?_); refine goesL_ (some 4) rfl rfl Try.func83 (by kernel_rfl) rfl #[.int .i64 a0] rfl zm ?_; (with_reducible refine (corebankref04_Leap.calls a0 true _ A2.out).mono ?_); rintro e w' ⟨rfl, ⟨nd, rfl⟩⟩; refine ⟨_, rfl, ?_⟩))
    go_ret
    exact ⟨by first | rfl | (simp; done) | (simp [*]; done), by repeat (first | exact Drawn0.refl _ | apply Drawn0.step)⟩
  · replace c3 := Bool.eq_false_iff.mpr c3
    subst c3
    have H1 : (some 365) = some r := by rw [if_neg (show ¬ (false = true) by decide)] at H; exact H
    clear H
    have H := H1
    clear H1
    obtain rfl := Option.some.inj H
    go_enter Try.func92, Try.ntmps92
    go_wp2_with (first | ((with_reducible refine gate_callee (f := 83) rfl ?_); refine goesL_ (some 4) rfl rfl Try.func83 (by kernel_rfl) rfl #[.int .i64 a0] rfl zm ?_; (with_reducible refine (corebankref04_Leap.calls a0 false _ A2.out).mono ?_); rintro e w' ⟨rfl, ⟨nd, rfl⟩⟩; refine ⟨_, rfl, ?_⟩))
    go_ret
    exact ⟨by first | rfl | (simp; done) | (simp [*]; done), by repeat (first | exact Drawn0.refl _ | apply Drawn0.step)⟩

end Go.Proofs.Ytlmabdiodopidaa.P
end
section
set_option linter.unusedVariables false
set_option linter.unusedSimpArgs false
namespace Go.Proofs.Ytlmabdiodopidaa.G
set_option maxRecDepth 100000
open Go.RowKit Go.Proofs.YtlmabdiodopidaaW.PrintWords Go.Proofs.YtlmabdiodopidaaW.PrintLast Go.Proofs.YtlmabdiodopidaaW.PrintMore Go.Proofs.Ytlmabdiodopidaa.P
/-- nothing where there is an error -/
def gz (e g : Int) : Int := if e = 0 then g else 0
/-- the interest of a day, as the program computes it -/
def GrIs (x : Intr) (bal day hi lo : Int) : Prop := ∃ k sl wt g1 g2 e, tier_Slices.f k x.tiers x.marg bal = some sl ∧ daycount_Weight.f k x.basis day = some wt ∧ tier_Grains.f k sl wt = some (g1, g2, e) ∧ hi = gz e g1 ∧ lo = gz e g2
abbrev zWd : List Value := [.int .i64 0, .int .u64 0]
set_option maxHeartbeats 1000000 in
theorem grains_calls (cs : List Value) (p : Prd) (bal day hi lo : Int) (w0 w : World) (hb0 : Below w0.heap.size w0 w) (hk : kPrd.K w0 p cs) (h20 : p.cr.tiers.length * 16 ≤ 140737488355328 ∧ p.db.tiers.length * 16 ≤ 140737488355328) (hg : GrIs (sideP p bal) bal day hi lo) :
    Calls Try.prog 79 #[.agg cs.toArray, .int .i64 bal, .int .i64 day] w fun e w' => e = .returned (.agg #[.int .i64 hi, .int .u64 lo]) ∧ Below w.heap.size w w' := by
  obtain ⟨k, sl, wt, g1, g2, er, f1, f2, f3, rfl, rfl⟩ := hg
  have HB0 := Aside0.mk hb0
  have HK := Aside0.mk hk
  have H20 := Aside0.mk h20
  have F1 := Aside0.mk f1
  have F2 := Aside0.mk f2
  have F3 := Aside0.mk f3
  have HL := Aside0.mk (prd_get hk).1
  clear hb0 hk h20 f1 f2 f3
  have WB0 := Aside0.mk (((Below.refl w.heap.size w).alloc (Nat.le_refl _) (.cells cs.toArray 98)).alloc (by simp) (.cells zWd.toArray 35))
  have BX0 := Aside0.mk ((Blk.new w cs 98).alloc (.cells zWd.toArray 35)).rng
  have RB0 := Aside0.mk (Blk.newAt (w.alloc (.cells cs.toArray 98)) (g := w.heap.size + 1) (by simp) zWd 35)
  go_enter Try.func79, Try.ntmps79
  go_upto_region 2 with (first
    | (refine ld_rng rfl 98 _ rfl (p := ⟨w.heap.size, 0, none⟩) rfl (cs := cs) BX0.out Try.underlying98 rfl ?_ ?_; (rw [HL.out]; kernel_rfl))
    | (go_at_call 90; refine (side_calls cs p bal w0 _ ?_ HK.out H20.out).mono ?_; (exact bstep HB0.out WB0.out); rintro e w1 ⟨ci, rfl, hci, hb1⟩; have CI := Aside0.mk hci; have HB1 := Aside0.mk (bstep WB0.out hb1); have RB1 := Aside0.mk (RB0.out.below hb1); obtain ⟨At, ct, cl, i0, i1, i2, hlt, hCt⟩ := intr_get hci; have CL := Aside0.mk cl; have CT := Aside0.mk hCt; clear hci hb1 cl hCt)
    | (refine st_new rfl 94 _ _ rfl rfl (cs := zIn) (vs := ci) rfl rfl CL.out ?_ (kIntr.K_one CI.out) ?_; (rw [CL.out]; kernel_rfl)))
  have B1 := Blk.new w1 ci 94
  have x0 := (B1.cell 0).trans i0
  have x1 := (B1.cell 1).trans i1
  have x2 := (B1.cell 2).trans i2
  have CT1 := Aside0.mk (Kd.C_alloc CT.out (.cells ci.toArray 94))
  have HB2 := Aside0.mk (HB1.out.alloc HB1.out.size (.cells ci.toArray 94))
  have RB2 := Aside0.mk (RB1.out.alloc (.cells ci.toArray 94))
  have G1 := Aside0.mk B1
  clear i0 i1 i2 B1
  generalize w1.alloc (.cells ci.toArray 94) = W at *
  generalize w1.heap.size = g at *
  cases hq : (er != 0)
  · have e0 : er = 0 := by simpa using hq
    have E0 := Aside0.mk e0
    clear e0
    go_wp2_with (first
      | (go_at_call 22; refine (tier_Slices.calls k At ct (sideP p bal).tiers (sideP p bal).marg bal sl _ CT1.out hlt F1.out).mono ?_; rintro e w2 ⟨v, rfl, hv, hb2⟩; have HB3 := Aside0.mk (bstep HB2.out hb2); have RB3 := Aside0.mk (RB2.out.below hb2); have y2 := keepc hb2 x2; obtain ⟨As, cS, rfl, hsl, hCs⟩ := Kd.R_reads hv; have CS := Aside0.mk hCs; clear hb2 hv hCs)
      | (go_at_call 91; refine (daycount_Weight.calls k _ day wt _ F2.out).mono ?_; rintro e w3 ⟨rfl, hb3⟩; have HB4 := Aside0.mk (bstep HB3.out hb3); have RB4 := Aside0.mk (RB3.out.below hb3); have CS4 := Aside0.mk (Kd.C_below CS.out hb3); clear hb3)
      | (go_at_call 24; refine (tier_Grains.calls k As cS sl wt g1 g2 er _ CS4.out hsl F3.out).mono ?_; rintro e w4 ⟨rfl, hb4⟩; have HB5 := Aside0.mk (bstep HB4.out hb4); have RB5 := Aside0.mk (RB4.out.below hb4); clear hb4)
      | (refine st_blk rfl 35 _ _ rfl rfl (g := w.heap.size + 1) (vs := [.int .i64 g1, .int .u64 g2]) rfl rfl (RB5.out.alloc _) rfl ?_ (by simp [Value.oneCell']) ?_; kernel_rfl; intro B3))
    exact bodyPost_ret (ret_cell Try.results79 _ _ rfl B3 Try.underlying35 rfl (by kernel_rfl)) rfl ⟨by unfold gz; rw [if_pos E0.out, if_pos E0.out], Below.setCells _ (by omega) _ _ (HB5.out.alloc HB5.out.size _)⟩
  · have e0 : ¬ er = 0 := by simpa using hq
    have E0 := Aside0.mk e0
    clear e0
    go_wp2_with (first
      | (go_at_call 22; refine (tier_Slices.calls k At ct (sideP p bal).tiers (sideP p bal).marg bal sl _ CT1.out hlt F1.out).mono ?_; rintro e w2 ⟨v, rfl, hv, hb2⟩; have HB3 := Aside0.mk (bstep HB2.out hb2); have RB3 := Aside0.mk (RB2.out.below hb2); have y2 := keepc hb2 x2; obtain ⟨As, cS, rfl, hsl, hCs⟩ := Kd.R_reads hv; have CS := Aside0.mk hCs; clear hb2 hv hCs)
      | (go_at_call 91; refine (daycount_Weight.calls k _ day wt _ F2.out).mono ?_; rintro e w3 ⟨rfl, hb3⟩; have HB4 := Aside0.mk (bstep HB3.out hb3); have RB4 := Aside0.mk (RB3.out.below hb3); have CS4 := Aside0.mk (Kd.C_below CS.out hb3); clear hb3)
      | (go_at_call 24; refine (tier_Grains.calls k As cS sl wt g1 g2 er _ CS4.out hsl F3.out).mono ?_; rintro e w4 ⟨rfl, hb4⟩; have HB5 := Aside0.mk (bstep HB4.out hb4); have RB5 := Aside0.mk (RB4.out.below hb4); clear hb4)
      | (refine st_blk rfl 35 _ _ rfl rfl (g := w.heap.size + 1) (vs := zWd) rfl rfl (RB5.out.alloc _) rfl ?_ (by simp [Value.oneCell']) ?_; kernel_rfl; intro B3))
    exact bodyPost_ret (ret_cell Try.results79 _ _ rfl B3 Try.underlying35 rfl (by kernel_rfl)) rfl ⟨by unfold gz; rw [if_neg E0.out, if_neg E0.out], Below.setCells _ (by omega) _ _ (HB5.out.alloc HB5.out.size _)⟩
end Go.Proofs.Ytlmabdiodopidaa.G
end
section
set_option linter.unusedVariables false
set_option linter.unusedSimpArgs false
namespace Go.RowKit
open Go
variable {P : Program}
theorem ld_rngIn {F : Fence} {n : Nat} {ops : Array Oper} {rest : List Oper} {op : Oper} {a : Act} {w : World} {Q : Exit → Act → World → Prop} (hw : Region.wanted op (yielded ops a.tmps) = true) (ty : TypeId) (x : Operand) (ho : op.op = .load ty x) {p : Addr} (hx : a.eval x = .pointer (some p)) {cs : List Value} (hb : Rng w p cs) {d : TypeDesc}
    (hu : P.underlying ty = some d) (hd : d.isRow = true) (hi : (P.info? ty).map (·.size) = some cs.length) (h : wpListIn F n P ops Q rest (a.put op.dst (.agg cs.toArray)) w) : wpListIn F n P ops Q (op :: rest) a w := by
  simp only [wpListIn, hw, if_true]
  unfold Oper.wpIn
  refine ⟨?_, ?_⟩
  · simp [Oper.about, ho]
  · rw [Oper.semAt_plain F _ _ (by rw [ho]; intro c hc'; cases hc')]
    simp only [execOp, ho, hx, run_loadAt_rng w p ty cs hb hu hd hi, Sem.run_bind, Sem.run_pure, Result.andThen_ok]
    exact h
theorem st_newIn {F : Fence} {n : Nat} {ops : Array Oper} {rest : List Oper} {op : Oper} {a : Act} {W : World} {Q : Exit → Act → World → Prop} (hw : Region.wanted op (yielded ops a.tmps) = true) (ty : TypeId) (x y : Operand) (ho : op.op = .store ty x y) (hdst : op.dst = none) {t : Nat} {cs vs : List Value} (hx : a.eval x = .pointer (some ⟨W.heap.size, 0, none⟩)) (hy : a.eval y = .agg vs.toArray) (hl : vs.length = cs.length) (hi : (P.info? ty).map (·.size) = some vs.length) (h1 : ∀ v ∈ vs, v.oneCell' = true)
    (h : wpListIn F n P ops Q rest a (W.alloc (.cells vs.toArray t))) : wpListIn F n P ops Q (op :: rest) a (W.alloc (.cells cs.toArray t)) := by
  have hB := Blk.new W cs t
  have hs := run_storeAt_mid (P := P) (W.alloc (.cells cs.toArray t)) W.heap.size 0 ty vs.toArray (hB.there _ (by simpa using hl)) (by simpa using hi) (all_oneCell_toArray h1)
  rw [show vs.toArray.toList = vs by simp, setCells_new W cs vs t hl] at hs
  simp only [wpListIn, hw, if_true]
  unfold Oper.wpIn
  refine ⟨?_, ?_⟩
  · simp [Oper.about, ho]
  · rw [Oper.semAt_plain F _ _ (by rw [ho]; intro c hc'; cases hc')]
    simp only [execOp, ho, hx, hy, hs, Sem.run_bind, Sem.run_pure, Result.andThen_ok]
    rw [Oper.uponIn_skip, hdst]
    exact h
end Go.RowKit
end
section
set_option linter.unusedVariables false
set_option linter.unusedSimpArgs false
namespace Go.Proofs.Ytlmabdiodopidaa.G
set_option maxRecDepth 100000
open Go.RowKit Go.Proofs.YtlmabdiodopidaaW.PrintWords Go.Proofs.YtlmabdiodopidaaW.PrintLast Go.Proofs.YtlmabdiodopidaaW.PrintMore Go.Proofs.Ytlmabdiodopidaa.P
attribute [local go_sem] Oper.semAt_some
/-- an entry as a value, and an amount -/
structure Mv where
  cs : List Value
  bk : Int
  vl : Int
  am : Int
  hl : cs.length = 10
  h1 : cs[1]? = some (.int .i64 bk)
  h2 : cs[2]? = some (.int .i64 vl)
  ho : ∀ v ∈ cs, v.oneCell' = true
/-- the movements of the first legs of an entry -/
def mvE (acct : Int) (e : Ent) (k : Nat) : List (Int × Int × Int) := ((e.legs.take k).filter (fun l => l.acct == acct)).map (fun l => (e.booked, e.value, l.amt))
/-- the movements of entries -/
def mvs (acct : Int) (l : List Ent) : List (Int × Int × Int) := l.flatMap (fun e => mvE acct e e.legs.length)
def Mv.t (m : Mv) : Int × Int × Int := (m.bk, m.vl, m.am)
theorem mvs_take (acct : Int) (l : List Ent) (i : Nat) (hi : i < l.length) : mvs acct (l.take (i + 1)) = mvs acct (l.take i) ++ mvE acct l[i] l[i].legs.length := by
  unfold mvs
  rw [List.take_succ_eq_append_getElem hi, List.flatMap_append]
  simp
theorem mvE_succ (acct : Int) (e : Ent) (k : Nat) (hk : k < e.legs.length) : mvE acct e (k + 1) = mvE acct e k ++ (if (e.legs[k].acct == acct) = true then [(e.booked, e.value, e.legs[k].amt)] else []) := by
  unfold mvE
  rw [List.take_succ_eq_append_getElem hk, List.filter_append, List.map_append]
  congr 1
  by_cases h : (e.legs[k].acct == acct) = true
  · simp [h]
  · simp [h]
theorem mvs_bound (acct : Int) (l : List Ent) (i k : Nat) (hi : i < l.length) (hk : k < l[i].legs.length) (h : (l[i].legs[k].acct == acct) = true) : (mvs acct (l.take i) ++ mvE acct l[i] k).length < (mvs acct l).length := by
  have e : l = l.take i ++ l[i] :: l.drop (i + 1) := by rw [← List.drop_eq_getElem_cons hi, List.take_append_drop]
  have h1 : (mvE acct l[i] (k + 1)).length ≤ (mvE acct l[i] l[i].legs.length).length := by
    unfold mvE
    rw [List.length_map, List.length_map]
    have : (l[i].legs.take (k + 1)).Sublist (l[i].legs.take l[i].legs.length) := by
      rw [List.take_length]
      exact List.take_sublist _ _
    exact (this.filter _).length_le
  rw [mvE_succ _ _ _ hk, if_pos h] at h1
  have h2 : (mvs acct l).length = (mvs acct (l.take i)).length + ((mvE acct l[i] l[i].legs.length).length + (mvs acct (l.drop (i + 1))).length) := by
    conv => lhs; rw [e]
    unfold mvs
    rw [List.flatMap_append, List.flatMap_cons, List.length_append, List.length_append]
  simp at h1 ⊢
  omega
/-- what a round keeps: what lay below n₀, and the cells from block M on -/
structure KpM (n₀ M : Nat) (W W' : World) : Prop where
  low : Below n₀ W W'
  hi : ∀ k cs t, M ≤ k → W.heap[k]? = some (.cells cs t (0, 0)) → W'.heap[k]? = some (.cells cs t (0, 0))
theorem KpM.trans {n₀ M : Nat} {A B C : World} (h : KpM n₀ M A B) (k : KpM n₀ M B C) : KpM n₀ M A C := ⟨h.low.trans k.low, fun i cs t hi hc => k.hi i cs t hi (h.hi i cs t hi hc)⟩
theorem kpM_b {n₀ M : Nat} {w : World} (hn : n₀ ≤ w.heap.size) (W : World) (l : Nat) (o o' : Obj) (hl : w.heap.size ≤ l) (h : W.heap[l]? = some o) (hc : o.isCells = false) (hw : o.isWalk = false) : KpM n₀ M W (W.putObj l o') :=
  ⟨belowK_b hn W l o o' hl h hc hw, fun k cs t _ hk => by
    have hne : k ≠ l := by
      rintro rfl
      rw [h] at hk
      cases hk
      cases hc
    exact (World.putObj_heap_other hne).trans hk⟩
theorem KpM.blk {n₀ M : Nat} {W W' : World} (h : KpM n₀ M W W') {g t : Nat} {cs : List Value} (hb : Blk W g cs t) (hg : M ≤ g) : Blk W' g cs t := ⟨h.hi g _ t hg hb.out⟩
theorem ent_get {w : World} {x : Ent} {cs : List Value} (h : kEnt.K w x cs) : ∃ A c, cs.length = 10 ∧ cs[1]? = some (.int .i64 x.booked) ∧ cs[2]? = some (.int .i64 x.value) ∧ cs[8]? = some (.slice A x.legs.length c) ∧ x.legs.length ≤ c ∧ Kd.C kLeg w A x.legs.length x.legs := by
  obtain ⟨A, c, rfl, hl, hC⟩ := kEnt_open h
  exact ⟨A, c, rfl, rfl, rfl, rfl, hl, hC⟩
abbrev zEnts : List Value := [.int .i64 0, .int .i64 0, .int .i64 0, .int .i64 0, .int .i64 0, .int .i64 0, .string ⟨#[]⟩, .string ⟨#[]⟩, .slice none 0 0, .int .u64 0]
abbrev zLegs : List Value := [.int .i64 0, .int .i64 0, .string ⟨#[]⟩]
set_option maxHeartbeats 2000000 in
theorem mv_stops (F : Fence) (n : Nat) (h96 : F.fn 96) (hro : F.round = none) (hn : 1 ≤ n) (Bj Ba M : Nat) (A : Option Addr) (c : Nat) (l : List Ent) (acct : Int) (w0 w : World) (hb0 : Below w0.heap.size w0 w) (hC : Kd.C kEnt w0 A l.length l) (hj : Blk w Bj [.slice A l.length c] 59) (ha : Blk w Ba [.int .i64 acct] 3) (hMj : M ≤ Bj) (hMa : M ≤ Ba) :
    SeqStopsK F n Try.prog 96 #[.pointer (some ⟨Bj, 0, none⟩), .pointer (some ⟨Ba, 0, none⟩)] (fun m : Mv => #[.agg m.cs.toArray, .int .i64 m.am]) (KpM w0.heap.size M) (fun ms => ms.map Mv.t = mvs acct l) (fun _ => True) (mvs acct l).length w := fun lp J Jx W hW hJ _ hY h0 => by
  have hj1 := hj.below hW
  have ha1 := ha.below hW
  have hb1 := hb0.trans (hW.mono hb0.size)
  have hJa : ∀ pre wr o, J pre wr → J pre (wr.alloc o) := fun pre wr o h => hJ pre wr _ none h (World.grownBy_alloc wr o none) (fun r e => by cases e)
  have HJ := Aside0.mk hJa
  have HY := Aside0.mk hY
  have HC := Aside0.mk hC
  have hlm := Kd.C_max hC
  have hjc := hj1.cell 0
  clear hJa hY hC hj ha hW hJ
  refine callsIn_of_wp Try.func96 rfl h96 ?_ hro
  simp only [Try.ntmps96, List.size_toArray, List.length_cons, List.length_nil, Nat.reduceAdd, Nat.reduceSub, Array.replicate_succ, Array.replicate_zero, List.push_toArray, List.append_toArray, List.nil_append, List.cons_append]
  gi_wp2
  gi_loopw [10] (fun i wr => ∃ (x : Nat) (pre : List Mv), x ≤ l.length ∧ i = .int .i64 x ∧ Aside0 (pre.map Mv.t = mvs acct (l.take x)) ∧ Aside0 (J pre wr) ∧ Aside0 (Below w0.heap.size w0 wr) ∧ Aside0 (Blk wr Bj [.slice A l.length c] 59) ∧ Aside0 (Blk wr Ba [.int .i64 acct] 3)) (fun i _ => l.length - (intOf i).toNat)
  case atStart => exact ⟨0, [], by omega, rfl, ⟨rfl⟩, ⟨h0⟩, ⟨hb1⟩, ⟨hj1⟩, ⟨ha1⟩⟩
  case round =>
    obtain ⟨x, pre, k1, rfl, hp, hJ1, hB, hj2, ha2⟩ := hrel
    by_cases hlt : x < l.length
    · obtain ⟨ad, ce, hA, hcl, hcK, hcR⟩ := row_at HC.out zEnt (x : Int) (by omega) (by omega)
      subst hA
      have hex : l.getD (x : Int).toNat zEnt = l[x] := by
        rw [Int.toNat_natCast, List.getD_eq_getElem?_getD, List.getElem?_eq_getElem hlt, Option.getD_some]
      rw [hex] at hcK
      clear hex
      obtain ⟨Al, cl, -, e1, e2, e8, hll, hCl⟩ := ent_get hcK
      have CL := Aside0.mk hcl
      have CK := Aside0.mk hcK
      have CR := Aside0.mk (hcR.below hB.out)
      have HCL := Aside0.mk hCl
      have E1 := Aside0.mk e1
      have E2 := Aside0.mk e2
      have hlg := Kd.C_max hCl
      have hmt := mvs_take acct l x hlt
      have hmb := mvs_bound acct l x
      have HMT := Aside0.mk hmt
      have HMB := Aside0.mk (fun k hk h => hmb k hlt hk h)
      have hMw : M ≤ wr.heap.size := by have := hj2.out.lt; omega
      clear hcl hcK hcR hCl e1 e2 hmt hmb
      generalize hen : l[x] = en at *
      gi_wp2_with (first
        | (refine ld_rngIn rfl 82 _ rfl (p := ad.add (x * 10)) rfl (cs := ce) CR.out Try.underlying82 rfl ?_ ?_; (rw [CL.out]; kernel_rfl))
        | (refine st_newIn rfl 82 _ _ rfl rfl (cs := zEnts) (vs := ce) rfl rfl CL.out ?_ (kEnt.K_one CK.out) ?_; (rw [CL.out]; kernel_rfl)))
      have HJ2 := Aside0.mk (HJ.out pre wr (.cells ce.toArray 82) hJ1.out)
      have HB2 := Aside0.mk (hB.out.alloc hB.out.size (.cells ce.toArray 82))
      have HBJ2 := Aside0.mk (hj2.out.alloc (.cells ce.toArray 82))
      have HBA2 := Aside0.mk (ha2.out.alloc (.cells ce.toArray 82))
      have HE2 := Aside0.mk (Blk.new wr ce 82)
      generalize wr.alloc (.cells ce.toArray 82) = wr1 at *
      generalize wr.heap.size = Be at *
      gi_loopw [17] (fun k wk => ∃ (y : Nat) (pre2 : List Mv), y ≤ en.legs.length ∧ k = .int .i64 y ∧ Aside0 (pre2.map Mv.t = mvs acct (l.take x) ++ mvE acct en y) ∧ Aside0 (J pre2 wk) ∧ Aside0 (Below w0.heap.size w0 wk) ∧ Aside0 (Blk wk Bj [.slice (some ad) l.length c] 59) ∧ Aside0 (Blk wk Ba [.int .i64 acct] 3) ∧ Aside0 (Blk wk Be ce 82)) (fun k _ => en.legs.length - (intOf k).toNat)
      case atStart => exact ⟨0, pre, by omega, rfl, ⟨by rw [hp.out]; simp [mvE]⟩, HJ2, HB2, HBJ2, HBA2, HE2⟩
      case round =>
        obtain ⟨y, pre2, k2, rfl, hp2, hJ3, hB3, hj3, ha3, he3⟩ := hrel
        by_cases hly : y < en.legs.length
        · obtain ⟨al, lc, hAl, hll2, hlK, hlR⟩ := row_at HCL.out zLeg (y : Int) (by omega) (by omega)
          subst hAl
          have hlx : en.legs.getD (y : Int).toNat zLeg = en.legs[y] := by
            rw [Int.toNat_natCast, List.getD_eq_getElem?_getD, List.getElem?_eq_getElem hly, Option.getD_some]
          rw [hlx] at hlK
          clear hlx
          have hlo := kLeg_open hlK
          have l0 : lc[0]? = some (.int .i64 en.legs[y].acct) := by rw [hlo]; rfl
          have l1 : lc[1]? = some (.int .i64 en.legs[y].amt) := by rw [hlo]; rfl
          have LL := Aside0.mk hll2
          have LK := Aside0.mk hlK
          have LR := Aside0.mk (hlR.below hB3.out)
          have hsc := mvE_succ acct en y hly
          have HSC := Aside0.mk hsc
          have hMB := HMB.out y hly
          have HMB2 := Aside0.mk hMB
          have hac := (ha3.out.alloc (.cells lc.toArray 132)).cell 0
          have hac2 : (wr.alloc (.cells lc.toArray 132)).cell? ⟨Ba, 0, none⟩ = some (.int .i64 acct) := hac
          clear hll2 hlK hlR hlo hsc hMB hac
          generalize hleg : en.legs[y] = lg at *
          cases hq : (lg.acct == acct)
          · gi_wp2_with (first
              | (refine ld_rngIn rfl 132 _ rfl (p := al.add (y * 3)) rfl (cs := lc) LR.out Try.underlying132 rfl ?_ ?_; (rw [LL.out]; kernel_rfl))
              | (refine st_newIn rfl 132 _ _ rfl rfl (cs := zLegs) (vs := lc) rfl rfl LL.out ?_ (kLeg.K_one LK.out) ?_; (rw [LL.out]; kernel_rfl)))
            refine ⟨fun _ h => (by cases h), ?_⟩
            gi_wp2
            go_roundw
            case rel => exact ⟨y + 1, pre2, by omega, by go_num, ⟨by rw [hp2.out, HSC.out, if_neg (by rw [hq]; simp)]; simp⟩, ⟨HJ.out _ _ _ hJ3.out⟩, ⟨hB3.out.alloc hB3.out.size _⟩, ⟨hj3.out.alloc _⟩, ⟨ha3.out.alloc _⟩, ⟨he3.out.alloc _⟩⟩
            case measure => simp [intOf]; omega
          · have hlen : pre2.length < (mvs acct l).length := by
              have h1 := HMB2.out hq
              rw [← hp2.out, List.length_map] at h1
              exact h1
            obtain ⟨fn, tmps, assign, body, hy, hR⟩ := HY.out pre2 ⟨ce, en.booked, en.value, lg.amt, CL.out, E1.out, E2.out, kEnt.K_one CK.out⟩ (wr.alloc (.cells lc.toArray 132)) (HJ.out _ _ _ hJ3.out) hlen
            dsimp only at hy
            have HR := Aside0.mk hR
            clear hR hlen
            have he4 := Aside0.mk (he3.out.alloc (.cells lc.toArray 132)).rng
            gi_wp2_with (first
              | (refine ld_rngIn rfl 132 _ rfl (p := al.add (y * 3)) rfl (cs := lc) LR.out Try.underlying132 rfl ?_ ?_; (rw [LL.out]; kernel_rfl))
              | (refine st_newIn rfl 132 _ _ rfl rfl (cs := zLegs) (vs := lc) rfl rfl LL.out ?_ (kLeg.K_one LK.out) ?_; (rw [LL.out]; kernel_rfl))
              | (refine ld_rngIn rfl 82 _ rfl (p := ⟨Be, 0, none⟩) rfl (cs := ce) he4.out Try.underlying82 rfl ?_ ?_; (rw [CL.out]; kernel_rfl)))
            refine HR.out.mono ?_
            rintro e W3 (⟨rfl, hJ4, hk4⟩ | ⟨rfl, hJx4⟩)
            · have hM4 : ∀ {g t : Nat} {cs : List Value}, Blk (wr.alloc (.cells lc.toArray 132)) g cs t → M ≤ g → Blk W3 g cs t := fun hb hg => hk4.blk hb hg
              have HM4 := Aside0.mk (And.intro (hM4 (hj3.out.alloc _) hMj) (And.intro (hM4 (ha3.out.alloc _) hMa) (hM4 (he3.out.alloc _) hMw)))
              have HB4 := Aside0.mk ((hB3.out.alloc hB3.out.size (.cells lc.toArray 132)).trans hk4.low)
              have HJ4 := Aside0.mk hJ4
              clear hJ4 hk4 hM4
              gi_wp2
              go_roundw
              case rel => exact ⟨y + 1, _, by omega, by go_num, ⟨by rw [List.map_append, hp2.out, HSC.out, if_pos hq, List.append_assoc]; rfl⟩, HJ4, HB4, ⟨HM4.out.1⟩, ⟨HM4.out.2.1⟩, ⟨HM4.out.2.2⟩⟩
              case measure => simp [intOf]; omega
            · gi_wp2
              refine bodyPost_ret (results_none rfl _ _ _) rfl ?_
              exact ⟨⟨_, rfl⟩, .inr ⟨_, trivial, hJx4⟩⟩
        · gi_wp2
          exact ⟨⟨x + 1, pre2, by omega, by go_num, ⟨by rw [hp2.out, HMT.out, show y = en.legs.length by omega]⟩, hJ3, hB3, hj3, ha3⟩, by simp [intOf]; omega⟩
    · gi_wp2
      go_end0
      exact ⟨⟨_, rfl⟩, .inl ⟨pre, by rw [hp.out, List.take_of_length_le (by omega)], hJ1.out⟩⟩
end Go.Proofs.Ytlmabdiodopidaa.G
end
section
set_option linter.unusedVariables false
set_option linter.unusedSimpArgs false
namespace Go.Proofs.Ytlmabdiodopidaa.G
set_option maxRecDepth 100000
open Go.RowKit Go.Proofs.YtlmabdiodopidaaW.PrintWords Go.Proofs.YtlmabdiodopidaaW.PrintLast Go.Proofs.YtlmabdiodopidaaW.PrintMore Go.Proofs.Ytlmabdiodopidaa.P
attribute [local go_sem] Oper.semAt_some
/-- one movement more -/
def atS (booked value n : Int) (t : Int × Int × Int) : Int := if t.1 ≤ booked ∧ t.2.1 ≤ value then wrap64 (n - t.2.2) else n
def atF (booked value : Int) (ts : List (Int × Int × Int)) : Int := ts.foldl (atS booked value) 0
theorem atF_snoc (booked value : Int) (ts : List (Int × Int × Int)) (t : Int × Int × Int) : atF booked value (ts ++ [t]) = atS booked value (atF booked value ts) t := by simp [atF]
theorem blk_own {β : Type} (B t : Nat) (f : β → List Value) : Own (fun s W => Blk W B (f s) t) := fun s X Y row hs hg hrow =>
  ⟨(hg.block B hs.lt (fun e' => by obtain ⟨o, ho, hc⟩ := hrow B e'.symm; rw [hs.out] at ho; cases ho; cases hc)).trans hs.out⟩
theorem ownFrom_size {β : Type} (B N : Nat) : OwnFrom B (fun (_ : β) W => N ≤ W.heap.size) := fun _ _ _ _ h hg _ => Nat.le_trans h hg.size
theorem movements_in (F : Fence) (n : Nat) (hf : F.fn 88) (hro : F.round = none) (A : Option Addr) (len c : Nat) (acct : Int) (w : World) :
    CallsIn F n Try.prog 88 #[.slice A len c, .int .i64 acct] w fun e w' => e = .returned (.func (.func 96) #[] #[.pointer (some ⟨w.heap.size, 0, none⟩), .pointer (some ⟨w.heap.size + 1, 0, none⟩)]) ∧ w' = (w.alloc (.cells #[.slice A len c] 59)).alloc (.cells #[.int .i64 acct] 3) := by
  refine callsIn_of_wp Try.func88 rfl hf ?_ hro
  simp only [Try.ntmps88, List.size_toArray, List.length_cons, List.length_nil, Nat.reduceAdd, Nat.reduceSub, Array.replicate_succ, Array.replicate_zero, List.push_toArray, List.append_toArray, List.nil_append, List.cons_append]
  gi_wp2
  go_ret
  exact ⟨by simp, rfl⟩
set_option maxHeartbeats 2000000 in
theorem at_in (F : Fence) (n : Nat) (h77 : F.fn 77) (h88 : F.fn 88) (h96 : F.fn 96) (hro : F.round = none) (hn : 6 ≤ n) (A : Option Addr) (c : Nat) (l : List Ent) (acct booked value : Int) (w0 w : World) (hb0 : Below w0.heap.size w0 w) (hC : Kd.C kEnt w0 A l.length l) :
    CallsIn F n Try.prog 77 #[.slice A l.length c, .int .i64 acct, .int .i64 booked, .int .i64 value] w fun e w' => e = .returned (.int .i64 (atF booked value (mvs acct l))) ∧ Below w.heap.size w w' := by
  have h1 : 1 ≤ n := by omega
  refine callsIn_of_wp_marks Try.func77 rfl h77 ?_ hro
  simp only [Try.ntmps77, List.size_toArray, List.length_cons, List.length_nil, Nat.reduceAdd, Nat.reduceSub, Array.replicate_succ, Array.replicate_zero, List.push_toArray, List.append_toArray, List.nil_append, List.cons_append]
  gi_wp2_with (gi_at_call 88; refine (movements_in F (n - 1) h88 hro _ _ _ _ _).mono ?_; rintro e w' ⟨rfl, rfl⟩)
  have b0 := ((((Blk.new w [.int .i64 booked] 3).alloc (.cells #[.int .i64 value] 3)).alloc (.cells #[.int .i64 0] 3)).alloc (.cells #[.slice A l.length c] 59)).alloc (.cells #[.int .i64 acct] 3)
  have b1 := (((Blk.newAt (w.alloc (.cells #[.int .i64 booked] 3)) (g := w.heap.size + 1) (by simp) [.int .i64 value] 3).alloc (.cells #[.int .i64 0] 3)).alloc (.cells #[.slice A l.length c] 59)).alloc (.cells #[.int .i64 acct] 3)
  have b2 := ((Blk.newAt ((w.alloc (.cells #[.int .i64 booked] 3)).alloc (.cells #[.int .i64 value] 3)) (g := w.heap.size + 1 + 1) (by simp) [.int .i64 0] 3).alloc (.cells #[.slice A l.length c] 59)).alloc (.cells #[.int .i64 acct] 3)
  have b3 := (Blk.newAt (((w.alloc (.cells #[.int .i64 booked] 3)).alloc (.cells #[.int .i64 value] 3)).alloc (.cells #[.int .i64 0] 3)) (g := w.heap.size + 1 + 1 + 1) (by simp) [.slice A l.length c] 59).alloc (.cells #[.int .i64 acct] 3)
  have b4 := Blk.newAt ((((w.alloc (.cells #[.int .i64 booked] 3)).alloc (.cells #[.int .i64 value] 3)).alloc (.cells #[.int .i64 0] 3)).alloc (.cells #[.slice A l.length c] 59)) (g := w.heap.size + 1 + 1 + 1 + 1) (by simp) [.int .i64 acct] 3
  have hB0 := (((((Below.refl w.heap.size w).alloc (Nat.le_refl _) (.cells #[.int .i64 booked] 3)).alloc (by simp) (.cells #[.int .i64 value] 3)).alloc (by simp; omega) (.cells #[.int .i64 0] 3)).alloc (by simp; omega) (.cells #[.slice A l.length c] 59)).alloc (by simp; omega) (.cells #[.int .i64 acct] 3)
  have hsz : (((((w.alloc (.cells #[.int .i64 booked] 3)).alloc (.cells #[.int .i64 value] 3)).alloc (.cells #[.int .i64 0] 3)).alloc (.cells #[.slice A l.length c] 59)).alloc (.cells #[.int .i64 acct] 3)).heap.size = w.heap.size + 5 := by simp
  simp only [List.toArray] at b0 b1 b2 b3 b4
  obtain ⟨W0, hW0⟩ : ∃ W0, ((((w.alloc (.cells #[.int .i64 booked] 3)).alloc (.cells #[.int .i64 value] 3)).alloc (.cells #[.int .i64 0] 3)).alloc (.cells #[.slice A l.length c] 59)).alloc (.cells #[.int .i64 acct] 3) = W0 := ⟨_, rfl⟩
  have b0 : Blk W0 w.heap.size [.int .i64 booked] 3 := by rw [← hW0]; exact b0
  have b1 : Blk W0 (w.heap.size + 1) [.int .i64 value] 3 := by rw [← hW0]; exact b1
  have b2 : Blk W0 (w.heap.size + 1 + 1) [.int .i64 0] 3 := by rw [← hW0]; exact b2
  have b3 : Blk W0 (w.heap.size + 1 + 1 + 1) [.slice A l.length c] 59 := by rw [← hW0]; exact b3
  have b4 : Blk W0 (w.heap.size + 1 + 1 + 1 + 1) [.int .i64 acct] 3 := by rw [← hW0]; exact b4
  rw [hW0] at hB0 hsz ⊢
  clear hW0
  refine wpIn_rangeFunc_ownH hro h1 (gf := 96) (lb := #[.pointer (some ⟨w.heap.size + 1 + 1 + 1, 0, none⟩), .pointer (some ⟨w.heap.size + 1 + 1 + 1 + 1, 0, none⟩)]) rfl h96 (enters_of Try.func96 (by kernel_rfl) rfl)
    (mv_stops F (n - 1) h96 hro (by omega) (w.heap.size + 1 + 1 + 1) (w.heap.size + 1 + 1 + 1 + 1) (w.heap.size + 3) A c l acct w0 W0 (hb0.trans (hB0.mono hb0.size)) hC b3 b4 (by omega) (by omega)) KpM.trans (kpM_b (by have := hb0.size; omega)) (Below.refl _ _) (fun _ => rfl)
    (fun pre W => ((Blk W (w.heap.size + 1 + 1) [.int .i64 (atF booked value (pre.map Mv.t))] 3 ∧ Blk W w.heap.size [.int .i64 booked] 3) ∧ Blk W (w.heap.size + 1) [.int .i64 value] 3) ∧ (Below w.heap.size w W ∧ w.heap.size + 5 ≤ W.heap.size))
    (fun _ _ _ => False)
    (OwnFrom.and (OwnFrom.and (OwnFrom.and (Own.from (blk_own _ _ _) _) (Own.from (blk_own _ _ _) _)) (Own.from (blk_own _ _ _) _)) (OwnFrom.and (ownFrom_below (Nat.le_refl _) (by omega)) (ownFrom_size _ _)))
    (fun _ _ _ _ _ hs _ _ => hs)
    ⟨⟨⟨b2, b0⟩, b1⟩, hB0, by omega⟩
    (fun x a' W => ∃ Bx, w.heap.size + 1 + 1 + 1 + 1 < Bx ∧ Blk W Bx x.cs 82 ∧ a' = { tmps := #[.slice A l.length c, .int .i64 acct, .int .i64 booked, .int .i64 value, undef, undef, .pointer (some ⟨w.heap.size, 0, none⟩), .pointer (some ⟨w.heap.size + 1, 0, none⟩), .int .i64 0, .pointer (some ⟨w.heap.size + 1 + 1, 0, none⟩), .pointer (some ⟨Bx, 0, none⟩), .int .i64 x.am, .slice A l.length c, .int .i64 acct, .func (.func 96) #[] #[.pointer (some ⟨w.heap.size + 1 + 1 + 1, 0, none⟩), .pointer (some ⟨w.heap.size + 1 + 1 + 1 + 1, 0, none⟩)], .agg x.cs.toArray, .int .i64 x.am, undef, undef, undef, undef, undef, undef, undef, undef, undef, undef, undef, undef, undef, undef], defers := [] })
    (fun x a' _ X Y row hs hg hr => by obtain ⟨Bx, h1, h2, h3⟩ := hs; exact ⟨Bx, h1, blk_own Bx 82 (fun (_ : Unit) => x.cs) () X Y row h2 hg (fun r e => (hr r e).2), h3⟩)
    ?assign ?body ?done ?stop
  case assign =>
    rintro lp pre x W K ⟨⟨⟨bN1, bB1⟩, bV1⟩, hB1, hz5⟩ hK
    have XL := Aside0.mk x.hl
    gi_wp2_with (first
      | (refine st_newIn rfl 82 _ _ rfl rfl (cs := zEnts) (vs := x.cs) rfl rfl XL.out ?_ x.ho ?_; (rw [XL.out]; kernel_rfl)))
    exact hK _ _ ((KeepsOthers.alloc _ _).from _) ⟨(Below.refl _ W).alloc (by have := hB1.size; have := hb0.size; omega) _, fun k cs t _ h => (Below.heap_alloc W _ k (Array.getElem?_eq_some_iff.1 h).1).trans h⟩ ⟨⟨⟨bN1.alloc _, bB1.alloc _⟩, bV1.alloc _⟩, hB1.alloc hB1.size _, by simp; omega⟩ ⟨W.heap.size, by omega, Blk.new W x.cs 82, rfl⟩
  case body =>
    rintro lp pre x a' W hl hr ⟨⟨⟨bN1, bB1⟩, bV1⟩, hB1, hz5⟩ ⟨Bx, hBx, bX, rfl⟩ hlt
    have HZ5 := Aside0.mk hz5
    have HSZ := Aside0.mk hsz
    clear hz5 hsz hl
    have cN : W.cell? ⟨w.heap.size + 1 + 1, 0, none⟩ = some (.int .i64 (atF booked value (pre.map Mv.t))) := bN1.cell 0
    have fN : W.frozen? ⟨w.heap.size + 1 + 1, 0, none⟩ = false := bN1.frozen 0
    have cB : W.cell? ⟨w.heap.size, 0, none⟩ = some (.int .i64 booked) := bB1.cell 0
    have cV : W.cell? ⟨w.heap.size + 1, 0, none⟩ = some (.int .i64 value) := bV1.cell 0
    have x1 := (bX.cell 1).trans x.h1
    have x2 := (bX.cell 2).trans x.h2
    have hsn : atF booked value ((pre ++ [x]).map Mv.t) = atS booked value (atF booked value (pre.map Mv.t)) (x.bk, x.vl, x.am) := by rw [List.map_append]; exact atF_snoc _ _ _ _
    have HSN := Aside0.mk hsn
    have HBN := Aside0.mk bN1
    have HBB := Aside0.mk bB1
    have HBV := Aside0.mk bV1
    have HB1 := Aside0.mk hB1
    have hs0 := hb0.size
    clear hsn bN1 bB1 bV1 bX hb0 hB0 b0 b1 b2 b3 b4 hr
    generalize atF booked value (pre.map Mv.t) = nn at *
    by_cases q1 : x.bk ≤ booked
    · by_cases q2 : x.vl ≤ value
      · have e := HSN.out
        rw [show atS booked value nn (x.bk, x.vl, x.am) = wrap64 (nn - x.am) by unfold atS; exact if_pos ⟨q1, q2⟩] at e
        have EE := Aside0.mk e
        clear e
        gi_wp2
        refine ⟨(KeepsOthers.setCell _ _ _).from _, ⟨(Below.refl _ W).setCell (by simp; omega) _, fun k cs t hk h => (Below.heap_setCell _ _ _ _ (by simp; omega)).trans h⟩, ⟨⟨?_, HBB.out.set (by simp; omega) _⟩, HBV.out.set (by simp) _⟩, HB1.out.setCell (by simp; omega) _, by simp; exact HZ5.out⟩
        rw [EE.out]
        exact HBN.out.setc 0 _
      · have e := HSN.out
        rw [show atS booked value nn (x.bk, x.vl, x.am) = nn by unfold atS; exact if_neg (fun h => q2 h.2)] at e
        have EE := Aside0.mk e
        clear e
        gi_wp2
        exact ⟨KeepsFrom.refl _ _, ⟨Below.refl _ W, fun k cs t hk h => h⟩, ⟨⟨by rw [EE.out]; exact HBN.out, HBB.out⟩, HBV.out⟩, HB1.out, HZ5.out⟩
    · have e := HSN.out
      rw [show atS booked value nn (x.bk, x.vl, x.am) = nn by unfold atS; exact if_neg (fun h => q1 h.1)] at e
      have EE := Aside0.mk e
      clear e
      gi_wp2
      exact ⟨KeepsFrom.refl _ _, ⟨Below.refl _ W, fun k cs t hk h => h⟩, ⟨⟨by rw [EE.out]; exact HBN.out, HBB.out⟩, HBV.out⟩, HB1.out, HZ5.out⟩
  case done =>
    rintro D zs W hD hzs ⟨⟨⟨bN1, bB1⟩, bV1⟩, hB1, hz5⟩ hK
    rw [hzs] at bN1
    have cN : W.cell? ⟨w.heap.size + 1 + 1, 0, none⟩ = some (.int .i64 (atF booked value (mvs acct l))) := bN1.cell 0
    clear hzs
    gi_wp2
    refine ⟨by simp, .inl ⟨_, _, rfl, run_takeDeferred hK, ?_⟩⟩
    exact ⟨_, results_tmp rfl _ _ _, rfl, hB1.trans (belowK_b (w := w) (Nat.le_refl _) W D _ _ (by omega) hK rfl rfl)⟩
  case stop =>
    rintro D c pre W _ _ h _
    exact h.elim
theorem at_calls (A : Option Addr) (c : Nat) (l : List Ent) (acct booked value : Int) (w0 w : World) (hb0 : Below w0.heap.size w0 w) (hC : Kd.C kEnt w0 A l.length l) :
    Calls Try.prog 77 #[.slice A l.length c, .int .i64 acct, .int .i64 booked, .int .i64 value] w fun e w' => e = .returned (.int .i64 (atF booked value (mvs acct l))) ∧ Below w.heap.size w w' :=
  callsIn_wide.1 (at_in Fence.wide 6 trivial trivial trivial rfl (by omega) A c l acct booked value w0 w hb0 hC)
end Go.Proofs.Ytlmabdiodopidaa.G
end
section
set_option linter.unusedVariables false
set_option linter.unusedSimpArgs false
namespace Go.Proofs.Ytlmabdiodopidaa.G
set_option maxRecDepth 100000
open Go.RowKit Go.Proofs.YtlmabdiodopidaaW.PrintWords Go.Proofs.YtlmabdiodopidaaW.PrintLast Go.Proofs.YtlmabdiodopidaaW.PrintMore Go.Proofs.Ytlmabdiodopidaa.P
def actv (x : Acc) (day : Int) : Bool := decide (x.opened ≤ day) && (x.closed == 0 || decide (day < x.closed))
def activeA (l : List Acc) (id day : Int) : Bool := (findA id l).2 && actv (findA id l).1 day
set_option maxHeartbeats 200000 in
theorem active_calls (cs : List Value) (b : Bk) (id day : Int) (w0 w : World) (hb0 : Below w0.heap.size w0 w) (hk : kBk.K w0 b cs) :
    Calls Try.prog 76 #[.agg cs.toArray, .int .i64 id, .int .i64 day] w fun e w' => e = .returned (.bool (activeA b.accs id day)) ∧ Below w.heap.size w w' := by
  obtain ⟨A1, c1, A2, c2, A3, c3, hl, -, -, -, -, -, -, -, -, -⟩ := bk_get hk
  have HK := Aside0.mk hk
  have HL := Aside0.mk hl
  have HB0 := Aside0.mk hb0
  clear hk hl hb0
  go_enter Try.func76, Try.ntmps76
  go_wp2_with (first
    | (refine ld_rng rfl 63 _ rfl (p := ⟨w.heap.size, 0, none⟩) rfl (cs := cs) ?_ Try.underlying63 rfl ?_ ?_; (exact ((Blk.new _ _ _).rng)); (rw [HL.out]; kernel_rfl)))
  refine (find_calls cs b id w0 _ (bstep HB0.out ((Below.refl w.heap.size w).alloc (Nat.le_refl _) _)) HK.out).mono ?_
  rintro e w1 ⟨ca, rfl, hca, hb1⟩
  have CA := Aside0.mk hca
  obtain ⟨cl, a0, a1, a2, a5⟩ := acc_get hca
  have CL := Aside0.mk cl
  clear hca cl a0 a5
  go_upto_region 2 with (first
    | (refine st_new rfl 101 _ _ rfl rfl (cs := zAccs) (vs := ca) rfl rfl CL.out ?_ (kAcc.K_one CA.out) ?_; (rw [CL.out]; kernel_rfl)))
  generalize hi : (findA id b.accs).2 = is at *
  have HI := Aside0.mk hi
  clear hi
  generalize hx : (findA id b.accs).1 = x at *
  have HX := Aside0.mk hx
  clear hx
  have hb2 := (Below.refl w.heap.size w).alloc (Nat.le_refl _) (.cells cs.toArray 63)
  have hb3 := (bstep hb2 hb1).alloc (bstep hb2 hb1).size (.cells ca.toArray 101)
  have HB := Aside0.mk hb3
  clear hb1 hb2 hb3
  cases is
  · go_wp2
    go_ret
    exact ⟨retb (by unfold activeA; rw [HI.out]; rfl), HB.out⟩
  · by_cases h1 : x.opened ≤ day
    · by_cases h2 : x.closed = 0
      · have h2' : (x.closed == 0) = true := by simpa using h2
        clear h2
        go_wp2
        go_ret
        exact ⟨retb (by unfold activeA; rw [HI.out, HX.out]; simp [actv, h1, h2']), HB.out⟩
      · have h2' : (x.closed == 0) = false := by simpa using h2
        clear h2
        by_cases h3 : day < x.closed
        · go_wp2
          go_ret
          exact ⟨retb (by unfold activeA; rw [HI.out, HX.out]; simp [actv, h1, h2', h3]), HB.out⟩
        · go_wp2
          go_ret
          exact ⟨retb (by unfold activeA; rw [HI.out, HX.out]; simp [actv, h1, h2', h3]), HB.out⟩
    · have h1' : decide (x.opened ≤ day) = false := by simpa using h1
      go_wp2
      go_ret
      exact ⟨retb (by unfold activeA; rw [HI.out, HX.out]; simp [actv, h1']), HB.out⟩
end Go.Proofs.Ytlmabdiodopidaa.G
end
section
set_option linter.unusedVariables false
set_option linter.unusedSimpArgs false
namespace Go.Proofs.Ytlmabdiodopidaa.G
set_option maxRecDepth 100000
open Go.RowKit Go.Proofs.YtlmabdiodopidaaW.PrintWords Go.Proofs.YtlmabdiodopidaaW.PrintLast Go.Proofs.YtlmabdiodopidaaW.PrintMore Go.Proofs.Ytlmabdiodopidaa.P
/-- the version of the product of an account on a day -/
def prodA (b : Bk) (id day : Int) : Prd × Bool := if (findA id b.accs).2 = true then atP b.prods (findA id b.accs).1.prod day else (noPrd, false)
-- MARK
set_option maxHeartbeats 2000000 in
theorem product_calls (cs : List Value) (b : Bk) (id day : Int) (w0 w : World) (hb0 : Below w0.heap.size w0 w) (hk : kBk.K w0 b cs) :
    Calls Try.prog 78 #[.agg cs.toArray, .int .i64 id, .int .i64 day] w fun e w' => ∃ cp, e = .returned (.tuple #[.agg cp.toArray, .bool (prodA b id day).2]) ∧ kPrd.K w0 (prodA b id day).1 cp ∧ Below w.heap.size w w' := by
  obtain ⟨A1, c1, A2, c2, A3, c3, hl, g1, -, -, hp, -, -, -, -, -⟩ := bk_get hk
  have HP := Aside0.mk hp
  have HK := Aside0.mk hk
  have HL := Aside0.mk hl
  have HB0 := Aside0.mk hb0
  clear hp hk hl hb0
  have WB := (((Below.refl w.heap.size w).alloc (Nat.le_refl _) (.cells cs.toArray 63)).alloc (by simp) (.cells zPrds.toArray 98))
  have WB0 := Aside0.mk WB
  clear WB
  go_enter Try.func78, Try.ntmps78
  go_upto_region 2 with (first
    | (refine ld_rng rfl 63 _ rfl (p := ⟨w.heap.size, 0, none⟩) rfl (cs := cs) ?_ Try.underlying63 rfl ?_ ?_; (exact (((Blk.new _ _ _).alloc _).rng)); (rw [HL.out]; kernel_rfl))
    | (go_at_call 51; refine (find_calls cs b id w0 _ ?_ HK.out).mono ?_; (exact bstep HB0.out WB0.out); rintro e w1 ⟨ca, rfl, hca, hb1⟩; have CA := Aside0.mk hca; obtain ⟨cl, a0, a1, a2, a5⟩ := acc_get hca; have CL := Aside0.mk cl; clear hca cl a0 a1 a2)
    | (refine st_new rfl 101 _ _ rfl rfl (cs := zAccs) (vs := ca) rfl rfl CL.out ?_ (kAcc.K_one CA.out) ?_; (rw [CL.out]; kernel_rfl)))
  have hbw := bstep WB0.out hb1
  have hb2 := hbw.alloc hbw.size (.cells ca.toArray 101)
  have B1 := (((Blk.new w cs 63).alloc (.cells zPrds.toArray 98)).below hb1).alloc (.cells ca.toArray 101)
  have R1 := ((Blk.newAt (w.alloc (.cells cs.toArray 63)) (g := w.heap.size + 1) (by simp) zPrds 98).below hb1).alloc (.cells ca.toArray 101)
  have f17 := (B1.cell 17).trans g1
  have f5 := ((Blk.new w1 ca 101).cell 5).trans a5
  clear hbw hb1 g1 a5 B1
  have HB2 := Aside0.mk hb2
  clear hb2
  generalize wr : w1.alloc (.cells ca.toArray 101) = W at *
  generalize hg : w1.heap.size = g at *
  clear wr hg
  have P1 : prodA b id day = (if (findA id b.accs).2 = true then atP b.prods (findA id b.accs).1.prod day else (noPrd, false)) := rfl
  generalize hi : (findA id b.accs).2 = is at *
  generalize hx : (findA id b.accs).1 = x at *
  have HI := Aside0.mk P1
  clear P1 hi hx
  cases is
  · have e : prodA b id day = (noPrd, false) := HI.out
    have E := Aside0.mk e
    clear e
    go_wp2_with (refine st_blk rfl 98 _ _ rfl rfl (g := w.heap.size + 1) (vs := zPrds) rfl rfl R1 rfl ?_ (kPrd.K_one (noPrd_K w)) ?_; kernel_rfl; intro B3)
    exact bodyPost_ret (ret_cell_tmp Try.results78 _ _ rfl rfl B3 Try.underlying98 rfl (by kernel_rfl)) rfl (by rw [E.out]; exact ⟨_, rfl, noPrd_K _, Below.setCells _ (by omega) _ _ HB2.out⟩)
  · have e : prodA b id day = atP b.prods x.prod day := HI.out
    have E := Aside0.mk e
    clear e
    go_wp2_with (first
      | (go_at_call 89; refine (cat_calls A1 c1 b.prods x.prod day w0 _ ?_ HP.out).mono ?_; (exact bstep HB0.out HB2.out); rintro e w2 ⟨cp, rfl, hcp, hb3⟩; have CP := Aside0.mk hcp; have R2 := R1.below hb3; have PL := Aside0.mk (prd_get hcp).1; have HB3 := Aside0.mk (bstep HB2.out hb3); clear hcp hb3)
      | (refine st_blk rfl 98 _ _ rfl rfl (g := w.heap.size + 1) (vs := cp) rfl rfl R2 PL.out ?_ (kPrd.K_one CP.out) ?_; (rw [PL.out]; kernel_rfl); intro B3))
    exact bodyPost_ret (ret_cell_tmp Try.results78 _ _ rfl rfl B3 Try.underlying98 rfl (by rw [PL.out]; kernel_rfl)) rfl (by
      rw [E.out]
      exact ⟨_, rfl, CP.out, Below.setCells _ (by omega) _ _ HB3.out⟩)
end Go.Proofs.Ytlmabdiodopidaa.G
end
section
set_option linter.unusedVariables false
set_option linter.unusedSimpArgs false
namespace Go.Proofs.Ytlmabdiodopidaa.G
set_option maxRecDepth 100000
open Go.RowKit Go.Proofs.YtlmabdiodopidaaW.PrintWords Go.Proofs.YtlmabdiodopidaaW.PrintLast Go.Proofs.YtlmabdiodopidaaW.PrintMore Go.Proofs.Ytlmabdiodopidaa.P
abbrev acL (id day bal chi clo dhi dlo : Int) : List Value := [.int .i64 id, .int .i64 day, .int .i64 bal, .int .i64 chi, .int .u64 clo, .int .i64 dhi, .int .u64 dlo]
/-- what a day's interest is, of an account that is active and whose product is there -/
def SideIs (x : Intr) (bal day chi clo dhi dlo : Int) : Prop :=
  (0 < bal ∧ GrIs x bal day chi clo ∧ dhi = 0 ∧ dlo = 0) ∨ (bal < 0 ∧ GrIs x bal day dhi dlo ∧ chi = 0 ∧ clo = 0) ∨ (bal = 0 ∧ chi = 0 ∧ clo = 0 ∧ dhi = 0 ∧ dlo = 0)
/-- what a day's interest is -/
def DayIs (b : Bk) (id day bal chi clo dhi dlo : Int) : Prop :=
  (activeA b.accs id day = false ∧ bal = 0 ∧ chi = 0 ∧ clo = 0 ∧ dhi = 0 ∧ dlo = 0) ∨
  (activeA b.accs id day = true ∧ bal = atF 73048 day (mvs id b.jour) ∧
    (((prodA b id day).2 = false ∧ chi = 0 ∧ clo = 0 ∧ dhi = 0 ∧ dlo = 0) ∨ ((prodA b id day).2 = true ∧ SideIs (sideP (prodA b id day).1 bal) bal day chi clo dhi dlo)))
/-- the versions have few tiers -/
def FewT (l : List Prd) : Prop := ∀ p ∈ l, p.cr.tiers.length ≤ 20 ∧ p.db.tiers.length ≤ 20
theorem prodA_few {b : Bk} (h : FewT b.prods) (id day : Int) : (prodA b id day).1.cr.tiers.length * 16 ≤ 140737488355328 ∧ (prodA b id day).1.db.tiers.length * 16 ≤ 140737488355328 := by
  unfold prodA
  split
  · unfold atP
    split
    · exact ⟨by simp [noPrd, noIntr], by simp [noPrd, noIntr]⟩
    · rename_i hn
      have hb := bestTo_lt (findA id b.accs).1.prod day b.prods b.prods.length
      have hm : rdPrd b.prods (bestTo (findA id b.accs).1.prod day b.prods b.prods.length) ∈ b.prods := by
        unfold rdPrd
        rw [List.getD_eq_getElem?_getD, List.getElem?_eq_getElem (by omega), Option.getD_some]
        exact List.getElem_mem _
      have := h _ hm
      constructor <;> simp only <;> omega
  · exact ⟨by simp [noPrd, noIntr], by simp [noPrd, noIntr]⟩
set_option maxHeartbeats 2000000 in
theorem daily1_calls (cs : List Value) (b : Bk) (id day bal chi clo dhi dlo : Int) (Bi Bb : Nat) (w0 w : World) (hb0 : Below w0.heap.size w0 w) (hk : kBk.K w0 b cs) (hi : Blk w Bi [.int .i64 id] 3) (hb : Blk w Bb cs 63) (hf : FewT b.prods) (hd : DayIs b id day bal chi clo dhi dlo) :
    Calls Try.prog 75 #[.int .i64 day, .pointer (some ⟨Bi, 0, none⟩), .pointer (some ⟨Bb, 0, none⟩)] w fun e w' => e = .returned (.agg (acL id day bal chi clo dhi dlo).toArray) ∧ Below w.heap.size w w' := by
  obtain ⟨A1, c1, A2, c2, A3, c3, hl, g1, -, g3, hP, -, hJ, -, -, -⟩ := bk_get hk
  have HB0 := Aside0.mk hb0
  have HK := Aside0.mk hk
  have HL := Aside0.mk hl
  have HJ := Aside0.mk hJ
  have HF := Aside0.mk (prodA_few hf id day)
  have HI := Aside0.mk hi
  have HBB := Aside0.mk hb
  have hBi := hi.lt
  have hBb := hb.lt
  have i0 : w.cell? ⟨Bi, 0, none⟩ = some (.int .i64 id) := hi.cell 0
  have i1 : (w.alloc (.cells (acL 0 0 0 0 0 0 0).toArray 66)).cell? ⟨Bi, 0, none⟩ = some (.int .i64 id) := (hi.alloc _).cell 0
  clear hb0 hk hl hP hJ hf hi hb g1
  go_enter Try.func75, Try.ntmps75
  go_upto_region 2 with (first
    | (refine st_newAt rfl 66 _ _ rfl rfl (g := w.heap.size + 1) (cs := acL 0 0 0 0 0 0 0) (vs := acL id day 0 0 0 0 0) rfl rfl (by simp) rfl ?_ (by simp [Value.oneCell']) ?_; kernel_rfl))
  have HW := Aside0.mk (((Below.refl w.heap.size w).alloc (Nat.le_refl _) (.cells (acL 0 0 0 0 0 0 0).toArray 66)).alloc (by simp) (.cells (acL id day 0 0 0 0 0).toArray 66))
  have R0 := Aside0.mk ((Blk.new w (acL 0 0 0 0 0 0 0) 66).alloc (.cells (acL id day 0 0 0 0 0).toArray 66))
  have O0 := Aside0.mk (Blk.newAt (w.alloc (.cells (acL 0 0 0 0 0 0 0).toArray 66)) (g := w.heap.size + 1) (by simp) (acL id day 0 0 0 0 0) 66)
  have I0 := Aside0.mk ((HI.out.alloc (.cells (acL 0 0 0 0 0 0 0).toArray 66)).alloc (.cells (acL id day 0 0 0 0 0).toArray 66))
  have K0 := Aside0.mk ((HBB.out.alloc (.cells (acL 0 0 0 0 0 0 0).toArray 66)).alloc (.cells (acL id day 0 0 0 0 0).toArray 66))
  have HD := Aside0.mk hd
  clear i0 i1 HI HBB hd
  generalize (w.alloc (.cells (acL 0 0 0 0 0 0 0).toArray 66)).alloc (.cells (acL id day 0 0 0 0 0).toArray 66) = W1 at *
  have ci : W1.cell? ⟨Bi, 0, none⟩ = some (.int .i64 id) := I0.out.cell 0
  cases hact : activeA b.accs id day
  · have e0 : bal = 0 ∧ chi = 0 ∧ clo = 0 ∧ dhi = 0 ∧ dlo = 0 := by
      rcases HD.out with h | h
      · exact h.2
      · rw [hact] at h
        exact absurd h.1 (by simp)
    obtain ⟨rfl, rfl, rfl, rfl, rfl⟩ := e0
    have ACT := Aside0.mk hact
    clear hact
    go_wp2_with (first
      | (refine ld_rng rfl 63 _ rfl (p := ⟨Bb, 0, none⟩) rfl (cs := cs) K0.out.rng Try.underlying63 rfl ?_ ?_; (rw [HL.out]; kernel_rfl))
      | (go_at_call 76; refine (active_calls cs b id day w0 _ (bstep HB0.out HW.out) HK.out).mono ?_; rw [ACT.out]; rintro e w2 ⟨rfl, hb2⟩; have O1 := Aside0.mk (O0.out.below hb2); have R1 := Aside0.mk (R0.out.below hb2); have HW2 := Aside0.mk (bstep HW.out hb2); clear hb2)
      | (refine ld_rng rfl 66 _ rfl (p := ⟨w.heap.size + 1, 0, none⟩) rfl (cs := acL id day 0 0 0 0 0) O1.out.rng Try.underlying66 rfl ?_ ?_; kernel_rfl)
      | (refine st_blk rfl 66 _ _ rfl rfl (g := w.heap.size) (vs := acL id day 0 0 0 0 0) rfl rfl R1.out rfl ?_ (by simp [Value.oneCell']) ?_; kernel_rfl; intro B3))
    exact bodyPost_ret (ret_cell Try.results75 _ _ rfl B3 Try.underlying66 rfl (by kernel_rfl)) rfl ⟨rfl, Below.setCells _ (by omega) _ _ HW2.out⟩
  · have e0 : bal = atF 73048 day (mvs id b.jour) ∧ (((prodA b id day).2 = false ∧ chi = 0 ∧ clo = 0 ∧ dhi = 0 ∧ dlo = 0) ∨ ((prodA b id day).2 = true ∧ SideIs (sideP (prodA b id day).1 bal) bal day chi clo dhi dlo)) := by
      rcases HD.out with h | h
      · rw [hact] at h
        exact absurd h.1 (by simp)
      · exact h.2
    obtain ⟨hbal, hrest⟩ := e0
    have ACT := Aside0.mk hact
    have BAL := Aside0.mk hbal
    have RST := Aside0.mk hrest
    clear hact hbal hrest HD
    go_upto_region 5 with (first
      | (refine ld_rng rfl 63 _ rfl (p := ⟨Bb, 0, none⟩) rfl (cs := cs) K0.out.rng Try.underlying63 rfl ?_ ?_; (rw [HL.out]; kernel_rfl))
      | (go_at_call 76; refine (active_calls cs b id day w0 _ (bstep HB0.out HW.out) HK.out).mono ?_; rw [ACT.out]; rintro e w2 ⟨rfl, hb2⟩; have O1 := Aside0.mk (O0.out.below hb2); have R1 := Aside0.mk (R0.out.below hb2); have I1 := Aside0.mk (I0.out.below hb2); have K1 := Aside0.mk (K0.out.below hb2); have HW2 := Aside0.mk (bstep HW.out hb2); have ci2 : w2.cell? ⟨Bi, 0, none⟩ = some (.int .i64 id) := I1.out.cell 0; have c19 := (K1.out.cell 19).trans g3; clear hb2)
      | (go_at_call 77; refine (at_calls A3 c3 b.jour id 73048 day w0 _ (bstep HB0.out HW2.out) HJ.out).mono ?_; rw [← BAL.out]; rintro e w3 ⟨rfl, hb3⟩; have O2 := Aside0.mk (O1.out.below hb3); have R2 := Aside0.mk (R1.out.below hb3); have I2 := Aside0.mk (I1.out.below hb3); have K2 := Aside0.mk (K1.out.below hb3); have HW3 := Aside0.mk (bstep HW2.out hb3); have o2 : w3.cell? ⟨w.heap.size + 1, 2, none⟩ = some (.int .i64 0) := O2.out.cell 2; have fo2 := O2.out.frozen 2; clear hb3))
    have O3 := Aside0.mk (show Blk (w3.setCell ⟨w.heap.size + 1, 2, none⟩ (.int .i64 bal)) (w.heap.size + 1) (acL id day bal 0 0 0 0) 66 from O2.out.setc 2 _)
    have R3 := Aside0.mk (R2.out.set (p := ⟨w.heap.size + 1, 2, none⟩) (by simp) (.int .i64 bal))
    have I3 := Aside0.mk (I2.out.set (p := ⟨w.heap.size + 1, 2, none⟩) (by simp; omega) (.int .i64 bal))
    have K3 := Aside0.mk (K2.out.set (p := ⟨w.heap.size + 1, 2, none⟩) (by simp; omega) (.int .i64 bal))
    have HW4 := Aside0.mk (HW3.out.setCell (p := ⟨w.heap.size + 1, 2, none⟩) (by simp) (.int .i64 bal))
    clear o2 fo2 HW3 O2 R2 I2 K2 ci2 c19 HW2 O1 R1 I1 K1 ci g3 HW R0 O0 I0 K0
    generalize w3.setCell ⟨w.heap.size + 1, 2, none⟩ (.int .i64 bal) = W4 at *
    have ci : W4.cell? ⟨Bi, 0, none⟩ = some (.int .i64 id) := I3.out.cell 0
    go_upto_block 0 with (first
      | (refine ld_rng rfl 63 _ rfl (p := ⟨Bb, 0, none⟩) rfl (cs := cs) K3.out.rng Try.underlying63 rfl ?_ ?_; (rw [HL.out]; kernel_rfl))
      | (go_at_call 78; refine (product_calls cs b id day w0 _ (bstep HB0.out HW4.out) HK.out).mono ?_; rintro e w5 ⟨cp, rfl, hcp, hb5⟩; have CP := Aside0.mk hcp; have PL := Aside0.mk (prd_get hcp).1; have O4 := Aside0.mk ((O3.out.below hb5).alloc (.cells cp.toArray 98)); have R4 := Aside0.mk ((R3.out.below hb5).alloc (.cells cp.toArray 98)); have HW5 := Aside0.mk ((bstep HW4.out hb5).alloc (bstep HW4.out hb5).size (.cells cp.toArray 98)); clear hb5 hcp)
      | (refine st_new rfl 98 _ _ rfl rfl (cs := zPrds) (vs := cp) rfl rfl PL.out ?_ (kPrd.K_one CP.out) ?_; (rw [PL.out]; kernel_rfl)))
    have P4 := Aside0.mk (Blk.new w5 cp 98)
    clear O3 R3 I3 K3 ci HW4
    generalize w5.alloc (.cells cp.toArray 98) = W5 at *
    generalize w5.heap.size = Bp at *
    have o2 : W5.cell? ⟨w.heap.size + 1, 2, none⟩ = some (.int .i64 bal) := O4.out.cell 2
    generalize hpp : prodA b id day = pp at *
    obtain ⟨p, is⟩ := pp
    have HPP := Aside0.mk hpp
    clear hpp
    have hrst := RST.out
    clear RST
    rcases hrst with ⟨rfl, rfl, rfl, rfl, rfl⟩ | ⟨rfl, hs⟩
    · go_wp2_with (first
        | (refine ld_rng rfl 66 _ rfl (p := ⟨w.heap.size + 1, 0, none⟩) rfl (cs := acL id day bal 0 0 0 0) O4.out.rng Try.underlying66 rfl ?_ ?_; kernel_rfl)
        | (refine st_blk rfl 66 _ _ rfl rfl (g := w.heap.size) (vs := acL id day bal 0 0 0 0) rfl rfl R4.out rfl ?_ (by simp [Value.oneCell']) ?_; kernel_rfl; intro B3))
      exact bodyPost_ret (ret_cell Try.results75 _ _ rfl B3 Try.underlying66 rfl (by kernel_rfl)) rfl ⟨rfl, Below.setCells _ (by omega) _ _ HW5.out⟩
    · have HS := Aside0.mk hs
      clear hs
      have hs := HS.out
      rcases hs with ⟨hpos, hg, rfl, rfl⟩ | ⟨hneg, hg, rfl, rfl⟩ | ⟨rfl, rfl, rfl, rfl, rfl⟩
      · have HG := Aside0.mk hg
        clear hg
        go_wp2_with (first
          | (refine ld_rng rfl 98 _ rfl (p := ⟨Bp, 0, none⟩) rfl (cs := cp) P4.out.rng Try.underlying98 rfl ?_ ?_; (rw [PL.out]; kernel_rfl))
          | (go_at_call 79; refine (grains_calls cp p bal day chi clo w0 _ (bstep HB0.out HW5.out) CP.out HF.out HG.out).mono ?_; rintro e w6 ⟨rfl, hb6⟩; have O5 := Aside0.mk (O4.out.below hb6); have R5 := Aside0.mk (R4.out.below hb6); have HW6 := Aside0.mk (bstep HW5.out hb6); have o3 : w6.cell? ⟨w.heap.size + 1, 3, none⟩ = some (.int .i64 0) := O5.out.cell 3; have o4 : w6.cell? ⟨w.heap.size + 1, 4, none⟩ = some (.int .u64 0) := O5.out.cell 4; have fo3 := O5.out.frozen 3; have fo4 := O5.out.frozen 4; clear hb6)
          | (refine ld_rng rfl 66 _ rfl (p := ⟨w.heap.size + 1, 0, none⟩) rfl (cs := acL id day bal chi clo 0 0) ((O5.out.setc 3 _).setc 4 _).rng Try.underlying66 rfl ?_ ?_; kernel_rfl)
          | (refine st_blk rfl 66 _ _ rfl rfl (g := w.heap.size) (vs := acL id day bal chi clo 0 0) rfl rfl ((R5.out.set (p := ⟨w.heap.size + 1, 3, none⟩) (by simp) _).set (p := ⟨w.heap.size + 1, 4, none⟩) (by simp) _) rfl ?_ (by simp [Value.oneCell']) ?_; kernel_rfl; intro B3))
        exact bodyPost_ret (ret_cell Try.results75 _ _ rfl B3 Try.underlying66 rfl (by kernel_rfl)) rfl ⟨rfl, Below.setCells _ (by omega) _ _ ((HW6.out.setCell (p := ⟨w.heap.size + 1, 3, none⟩) (by simp) _).setCell (p := ⟨w.heap.size + 1, 4, none⟩) (by simp) _)⟩
      · have HG := Aside0.mk hg
        have hng : ¬ 0 < bal := by omega
        clear hg
        go_wp2_with (first
          | (refine ld_rng rfl 98 _ rfl (p := ⟨Bp, 0, none⟩) rfl (cs := cp) P4.out.rng Try.underlying98 rfl ?_ ?_; (rw [PL.out]; kernel_rfl))
          | (go_at_call 79; refine (grains_calls cp p bal day dhi dlo w0 _ (bstep HB0.out HW5.out) CP.out HF.out HG.out).mono ?_; rintro e w6 ⟨rfl, hb6⟩; have O5 := Aside0.mk (O4.out.below hb6); have R5 := Aside0.mk (R4.out.below hb6); have HW6 := Aside0.mk (bstep HW5.out hb6); have o5 : w6.cell? ⟨w.heap.size + 1, 5, none⟩ = some (.int .i64 0) := O5.out.cell 5; have o6 : w6.cell? ⟨w.heap.size + 1, 6, none⟩ = some (.int .u64 0) := O5.out.cell 6; have fo5 := O5.out.frozen 5; have fo6 := O5.out.frozen 6; clear hb6)
          | (refine ld_rng rfl 66 _ rfl (p := ⟨w.heap.size + 1, 0, none⟩) rfl (cs := acL id day bal 0 0 dhi dlo) ((O5.out.setc 5 _).setc 6 _).rng Try.underlying66 rfl ?_ ?_; kernel_rfl)
          | (refine st_blk rfl 66 _ _ rfl rfl (g := w.heap.size) (vs := acL id day bal 0 0 dhi dlo) rfl rfl ((R5.out.set (p := ⟨w.heap.size + 1, 5, none⟩) (by simp) _).set (p := ⟨w.heap.size + 1, 6, none⟩) (by simp) _) rfl ?_ (by simp [Value.oneCell']) ?_; kernel_rfl; intro B3))
        exact bodyPost_ret (ret_cell Try.results75 _ _ rfl B3 Try.underlying66 rfl (by kernel_rfl)) rfl ⟨rfl, Below.setCells _ (by omega) _ _ ((HW6.out.setCell (p := ⟨w.heap.size + 1, 5, none⟩) (by simp) _).setCell (p := ⟨w.heap.size + 1, 6, none⟩) (by simp) _)⟩
      · go_wp2_with (first
          | (refine ld_rng rfl 66 _ rfl (p := ⟨w.heap.size + 1, 0, none⟩) rfl (cs := acL id day 0 0 0 0 0) O4.out.rng Try.underlying66 rfl ?_ ?_; kernel_rfl)
          | (refine st_blk rfl 66 _ _ rfl rfl (g := w.heap.size) (vs := acL id day 0 0 0 0 0) rfl rfl R4.out rfl ?_ (by simp [Value.oneCell']) ?_; kernel_rfl; intro B3))
        exact bodyPost_ret (ret_cell Try.results75 _ _ rfl B3 Try.underlying66 rfl (by kernel_rfl)) rfl ⟨rfl, Below.setCells _ (by omega) _ _ HW5.out⟩
end Go.Proofs.Ytlmabdiodopidaa.G
end
section
set_option linter.unusedVariables false
set_option linter.unusedSimpArgs false
namespace Go.Proofs.Ytlmabdiodopidaa.P
open Go.Proofs.Ytlmabdiodopidaa.G
attribute [local go_sem high] un_not64 un_noti run_add64
open Go.RowKit Go.Proofs.YtlmabdiodopidaaW.PrintWords Go.Proofs.YtlmabdiodopidaaW.PrintLast Go.Proofs.YtlmabdiodopidaaW.PrintMore
attribute [local go_sem] max2_int min2_int max_two min_two max_three min_three max_four min_four   -- for this text's walks alone
set_option linter.unusedVariables false
set_option linter.unusedSimpArgs false

attribute [local go_sem high] eqA43
/-! ### corebankref14_Same: function 21 -/
def corebankref14_Same.l0 : Nat → List (S43) → List (S43) → Int → Option (Bool)
  | 0, _, _, _ => none
  | k + 1, x0, x1, x5 => if x5 < (x0.length : Int) then (if 0 ≤ x5 then (if x5 < (x1.length : Int) then (if (!(((rd_T43 x0 x5).f0) == ((rd_T43 x1 x5).f0)) || (!(((rd_T43 x0 x5).f1) == ((rd_T43 x1 x5).f1)))) = true then (some false) else (corebankref14_Same.l0 k x0 x1 (wrap64 (x5 + 1)))) else (none)) else (none)) else (some true)
def corebankref14_Same.f (k : Nat) (l0 : List (S43)) (l1 : List (S43)) : Option (Bool) := if (l0.length : Int) = (l1.length : Int) then (corebankref14_Same.l0 k l0 l1 0) else (some false)
theorem corebankref14_Same.mono_l : ∀ k, (∀ y0 y1 y2, LeO (corebankref14_Same.l0 k y0 y1 y2) (corebankref14_Same.l0 (k + 1) y0 y1 y2))
  | 0 => fun _ _ _ r h => by simp [corebankref14_Same.l0] at h
  | k + 1 => by
    have ih0 := corebankref14_Same.mono_l k
    · intro y0 y1 y2
      unfold corebankref14_Same.l0
      repeat' first
      | (with_reducible exact ih0 _ _ _)
      | (with_reducible exact LeO.refl _)
      | (with_reducible exact LeO.none _)
      | (with_reducible refine LeO.ite ?_ ?_)
      | (with_reducible refine LeO.bind ?_ (fun _ => ?_))
      | exact ih0 _ _ _
      | exact LeO.none _
      | refine LeO.ite ?_ ?_
      | refine LeO.bind ?_ (fun _ => ?_)
theorem corebankref14_Same.mono : ∀ a0 a1 k, LeO (corebankref14_Same.f k a0 a1) (corebankref14_Same.f (k + 1) a0 a1) := by
  intro a0 a1 k
  have ih0 := corebankref14_Same.mono_l k
  unfold corebankref14_Same.f
  repeat' first
      | (with_reducible exact ih0 _ _ _)
      | (with_reducible exact LeO.refl _)
      | (with_reducible exact LeO.none _)
      | (with_reducible refine LeO.ite ?_ ?_)
      | (with_reducible refine LeO.bind ?_ (fun _ => ?_))
      | exact ih0 _ _ _
      | exact LeO.none _
      | refine LeO.ite ?_ ?_
      | refine LeO.bind ?_ (fun _ => ?_)
set_option maxHeartbeats 8000000 in
set_option maxRecDepth 100000 in
theorem corebankref14_Same.calls (k : Nat) (A0 : Option Addr) (c0 : Nat) (l0 : List (S43)) (A1 : Option Addr) (c1 : Nat) (l1 : List (S43)) (r : Bool) (w : World) (hr0 : Kd.C k43 w A0 l0.length l0) (hc0 : l0.length ≤ c0) (hr1 : Kd.C k43 w A1 l1.length l1) (hc1 : l1.length ≤ c1) (h : corebankref14_Same.f k l0 l1 = some r) :
    Calls Try.prog 21 #[.slice A0 l0.length c0, .slice A1 l1.length c1] w fun e w' => e = .returned (.bool r) ∧ Drawn0 w w' := by
  have hu43 := Try.underlying43
  have HR0 := Aside0.mk hr0
  have HC0 := Aside0.mk hc0
  clear hr0 hc0
  have HR1 := Aside0.mk hr1
  have HC1 := Aside0.mk hc1
  clear hr1 hc1
  have H : (if (l0.length : Int) = (l1.length : Int) then (corebankref14_Same.l0 k l0 l1 0) else (some false)) = some r := h
  clear h
  by_cases c3 : (l0.length : Int) = (l1.length : Int)
  · rw [if_pos c3] at H
    have c3b0 : ((l0.length : Int) == (l1.length : Int)) = true := beq_iff_eq.mpr c3
    have c3b1 : ((l0.length : Int) != (l1.length : Int)) = false := bne_eq_false_iff_eq.mpr c3
    have c3b2 : (l0.length == l1.length) = true := by first | simpa using c3 | (simp at c3 ⊢; omega)
    clear c3
    have H' := Aside0.mk H
    clear H
    go_enter Try.func21, Try.ntmps21
    go_wp2
    repeat (go_quiet (fail); try go_wp2)
    go_loopg [5] k (fun kq v5 w' => ∃ (x5_1 : Int), v5 = .int .i64 x5_1 ∧ Aside0 (corebankref14_Same.l0 kq l0 l1 x5_1 = some r) ∧ Aside0 (kq ≤ k) ∧ Drawn0 w w')
    case atStart => exact ⟨(0), (by first | rfl | (simp; done) | (simp [*]; done)), H', ⟨Nat.le_refl _⟩, by repeat (first | exact Drawn0.refl _ | apply Drawn0.step)⟩
    case round =>
      clear H'
      try clear c1
      try clear c2
      try clear p2
      try clear c3
      try clear c3b0
      try clear c3b1
      try clear c3b2
      obtain ⟨x5_1, rfl, HA, HK1, ⟨m1, rfl⟩⟩ := hrel
      cases gk with
      | zero => exact absurd HA.out (by simp [corebankref14_Same.l0])
      | succ k1 =>
        have H := HA.out
        clear HA
        simp only [corebankref14_Same.l0] at H
        by_cases c4 : x5_1 < (l0.length : Int)
        · rw [if_pos c4] at H
          have c4b0 : decide (x5_1 < (l0.length : Int)) = true := decide_eq_true c4
          clear c4
          by_cases c5 : 0 ≤ x5_1
          · rw [if_pos c5] at H
            have c5b0 : decide (0 ≤ x5_1) = true := decide_eq_true c5
            clear c5
            by_cases c6 : x5_1 < (l1.length : Int)
            · rw [if_pos c6] at H
              have c6b0 : decide (x5_1 < (l1.length : Int)) = true := decide_eq_true c6
              clear c6
              by_cases c7 : (!(((rd_T43 l0 x5_1).f0) == ((rd_T43 l1 x5_1).f0)) || (!(((rd_T43 l0 x5_1).f1) == ((rd_T43 l1 x5_1).f1)))) = true
              · rw [if_pos c7] at H
                have c7b0 : (!(((rd_T43 l0 x5_1).f0) == ((rd_T43 l1 x5_1).f0)) || (!(((rd_T43 l0 x5_1).f1) == ((rd_T43 l1 x5_1).f1)))) = true := c7
                clear c7
                obtain rfl := Option.some.inj H
                have p154 : 0 ≤ (x5_1 : Int) := of_decide_eq_true (by first | (with_reducible assumption) | assumption)
                have q154 : x5_1 < (l0.length : Int) := of_decide_eq_true (by first | (with_reducible assumption) | assumption)
                obtain ⟨ad154, e154, hx154_0, hx154_1⟩ := at_T43 HR0.out x5_1 p154 q154
                cases e154
                replace p154 := eq_true p154
                replace q154 := eq_true q154
                have p155 : 0 ≤ (x5_1 : Int) := of_decide_eq_true (by first | (with_reducible assumption) | assumption)
                have q155 : x5_1 < (l1.length : Int) := of_decide_eq_true (by first | (with_reducible assumption) | assumption)
                obtain ⟨ad155, e155, hx155_0, hx155_1⟩ := at_T43 HR1.out x5_1 p155 q155
                cases e155
                replace p155 := eq_true p155
                replace q155 := eq_true q155
                go_wp2
                repeat (go_quiet (fail); try go_wp2)
                go_ret
                exact ⟨by first | rfl | (simp; done) | (simp [*]; done), by repeat (first | exact Drawn0.refl _ | apply Drawn0.step)⟩
              · rw [if_neg c7] at H
                have c7b0 : (!(((rd_T43 l0 x5_1).f0) == ((rd_T43 l1 x5_1).f0)) || (!(((rd_T43 l0 x5_1).f1) == ((rd_T43 l1 x5_1).f1)))) = false := by simpa using c7
                clear c7
                have H' := Aside0.mk H
                clear H
                have p154 : 0 ≤ (x5_1 : Int) := of_decide_eq_true (by first | (with_reducible assumption) | assumption)
                have q154 : x5_1 < (l0.length : Int) := of_decide_eq_true (by first | (with_reducible assumption) | assumption)
                obtain ⟨ad154, e154, hx154_0, hx154_1⟩ := at_T43 HR0.out x5_1 p154 q154
                cases e154
                replace p154 := eq_true p154
                replace q154 := eq_true q154
                have p155 : 0 ≤ (x5_1 : Int) := of_decide_eq_true (by first | (with_reducible assumption) | assumption)
                have q155 : x5_1 < (l1.length : Int) := of_decide_eq_true (by first | (with_reducible assumption) | assumption)
                obtain ⟨ad155, e155, hx155_0, hx155_1⟩ := at_T43 HR1.out x5_1 p155 q155
                cases e155
                replace p155 := eq_true p155
                replace q155 := eq_true q155
                go_wp2
                repeat (go_quiet (fail); try go_wp2)
                go_roundg k1
                case measure => have := HK1.out; omega
                case rel => exact ⟨(wrap64 (x5_1 + 1)), (by first | rfl | (simp; done) | (simp [*]; done)), H', ⟨by have := HK1.out; omega⟩, by repeat (first | exact Drawn0.refl _ | apply Drawn0.step)⟩
            · rw [if_neg c6] at H
              exact absurd H (by simp)
          · rw [if_neg c5] at H
            exact absurd H (by simp)
        · rw [if_neg c4] at H
          have c4b0 : decide (x5_1 < (l0.length : Int)) = false := decide_eq_false c4
          clear c4
          obtain rfl := Option.some.inj H
          go_wp2
          repeat (go_quiet (fail); try go_wp2)
          go_ret
          exact ⟨by first | rfl | (simp; done) | (simp [*]; done), by repeat (first | exact Drawn0.refl _ | apply Drawn0.step)⟩
  · rw [if_neg c3] at H
    have c3b0 : ((l0.length : Int) == (l1.length : Int)) = false := beq_eq_false_iff_ne.mpr c3
    have c3b1 : ((l0.length : Int) != (l1.length : Int)) = true := bne_iff_ne.mpr c3
    have c3b2 : (l0.length == l1.length) = false := by first | simpa using c3 | (simp at c3 ⊢; omega)
    obtain rfl := Option.some.inj H
    go_enter Try.func21, Try.ntmps21
    go_wp2
    repeat (go_quiet (fail); try go_wp2)
    go_ret
    exact ⟨by first | rfl | (simp; done) | (simp [*]; done), by repeat (first | exact Drawn0.refl _ | apply Drawn0.step)⟩

end Go.Proofs.Ytlmabdiodopidaa.P
end
section
set_option linter.unusedVariables false
set_option linter.unusedSimpArgs false
namespace Go.Proofs.Ytlmabdiodopidaa.P
open Go.Proofs.Ytlmabdiodopidaa.G
attribute [local go_sem high] un_not64 un_noti run_add64
open Go.RowKit Go.Proofs.YtlmabdiodopidaaW.PrintWords Go.Proofs.YtlmabdiodopidaaW.PrintLast Go.Proofs.YtlmabdiodopidaaW.PrintMore
attribute [local go_sem] max2_int min2_int max_two min_two max_three min_three max_four min_four   -- for this text's walks alone
set_option linter.unusedVariables false
set_option linter.unusedSimpArgs false

/-! ### corebankref14_Check: function 17 -/
mutual
def corebankref14_Check.l0 : Nat → List (S50) → Int → Option (Int)
  | 0, _, _ => none
  | k + 1, x0, x3 => if x3 < (x0.length : Int) then (if 0 ≤ x3 then (if ((rd_T50 x0 x3).f0) < 0 then (some 1) else (if ((rd_T50 x0 x3).f0) > 1000000000000 then (some 1) else (if ((rd_T50 x0 x3).f1) < 0 then (some 1) else (if ((rd_T50 x0 x3).f1) > 1000000 then (some 1) else (corebankref14_Check.l0 k x0 (wrap64 (x3 + 1))))))) else (none)) else (corebankref14_Check.l1 k x0 1)
def corebankref14_Check.l1 : Nat → List (S50) → Int → Option (Int)
  | 0, _, _ => none
  | k + 1, x0, x4 => if x4 < (x0.length : Int) then (if 0 ≤ x4 then (if 0 ≤ (wrap64 (x4 - 1)) then (if (wrap64 (x4 - 1)) < (x0.length : Int) then (if ((rd_T50 x0 x4).f0) ≤ ((rd_T50 x0 (wrap64 (x4 - 1))).f0) then (some 10) else (corebankref14_Check.l1 k x0 (wrap64 (x4 + 1)))) else (none)) else (none)) else (none)) else (if (x0.length : Int) > 0 then (if 0 < (x0.length : Int) then (if ((rd_T50 x0 0).f0) = 0 then (some 0) else (some 1)) else (none)) else (some 0))
end
def corebankref14_Check.f (k : Nat) (l0 : List (S50)) : Option (Int) := if (l0.length : Int) > 6 then (some 5) else (corebankref14_Check.l0 k l0 0)
theorem corebankref14_Check.mono_l : ∀ k, (∀ y0 y1, LeO (corebankref14_Check.l0 k y0 y1) (corebankref14_Check.l0 (k + 1) y0 y1)) ∧ (∀ y0 y1, LeO (corebankref14_Check.l1 k y0 y1) (corebankref14_Check.l1 (k + 1) y0 y1))
  | 0 => ⟨fun _ _ r h => by simp [corebankref14_Check.l0] at h, fun _ _ r h => by simp [corebankref14_Check.l1] at h⟩
  | k + 1 => by
    obtain ⟨ih0, ih1⟩ := corebankref14_Check.mono_l k
    refine ⟨?_, ?_⟩
    · intro y0 y1
      unfold corebankref14_Check.l0
      repeat' first
      | (with_reducible exact ih0 _ _)
      | (with_reducible exact ih1 _ _)
      | (with_reducible exact LeO.refl _)
      | (with_reducible exact LeO.none _)
      | (with_reducible refine LeO.ite ?_ ?_)
      | (with_reducible refine LeO.bind ?_ (fun _ => ?_))
      | exact ih0 _ _
      | exact ih1 _ _
      | exact LeO.none _
      | refine LeO.ite ?_ ?_
      | refine LeO.bind ?_ (fun _ => ?_)
    · intro y0 y1
      unfold corebankref14_Check.l1
      repeat' first
      | (with_reducible exact ih0 _ _)
      | (with_reducible exact ih1 _ _)
      | (with_reducible exact LeO.refl _)
      | (with_reducible exact LeO.none _)
      | (with_reducible refine LeO.ite ?_ ?_)
      | (with_reducible refine LeO.bind ?_ (fun _ => ?_))
      | exact ih0 _ _
      | exact ih1 _ _
      | exact LeO.none _
      | refine LeO.ite ?_ ?_
      | refine LeO.bind ?_ (fun _ => ?_)
theorem corebankref14_Check.mono : ∀ a0 k, LeO (corebankref14_Check.f k a0) (corebankref14_Check.f (k + 1) a0) := by
  intro a0 k
  obtain ⟨ih0, ih1⟩ := corebankref14_Check.mono_l k
  unfold corebankref14_Check.f
  repeat' first
      | (with_reducible exact ih0 _ _)
      | (with_reducible exact ih1 _ _)
      | (with_reducible exact LeO.refl _)
      | (with_reducible exact LeO.none _)
      | (with_reducible refine LeO.ite ?_ ?_)
      | (with_reducible refine LeO.bind ?_ (fun _ => ?_))
      | exact ih0 _ _
      | exact ih1 _ _
      | exact LeO.none _
      | refine LeO.ite ?_ ?_
      | refine LeO.bind ?_ (fun _ => ?_)
set_option maxHeartbeats 8000000 in
set_option maxRecDepth 100000 in
theorem corebankref14_Check.calls (k : Nat) (A0 : Option Addr) (c0 : Nat) (l0 : List (S50)) (r : Int) (w : World) (hr0 : Kd.C k50 w A0 l0.length l0) (hc0 : l0.length ≤ c0) (h : corebankref14_Check.f k l0 = some r) :
    Calls Try.prog 17 #[.slice A0 l0.length c0] w fun e w' => e = .returned (.int .i64 r) ∧ Drawn0 w w' := by
  have HR0 := Aside0.mk hr0
  have HC0 := Aside0.mk hc0
  clear hr0 hc0
  have H : (if (l0.length : Int) > 6 then (some 5) else (corebankref14_Check.l0 k l0 0)) = some r := h
  clear h
  by_cases c2 : (l0.length : Int) > 6
  · rw [if_pos c2] at H
    have c2b0 : decide (6 < (l0.length : Int)) = true := decide_eq_true c2
    have c2b1 : decide (6 < l0.length) = true := decide_eq_true (by omega)
    clear c2
    obtain rfl := Option.some.inj H
    go_enter Try.func17, Try.ntmps17
    go_wp2
    repeat (go_quiet (fail); try go_wp2)
    go_ret
    exact ⟨by first | rfl | (simp; done) | (simp [*]; done), by repeat (first | exact Drawn0.refl _ | apply Drawn0.step)⟩
  · rw [if_neg c2] at H
    have c2b0 : decide (6 < (l0.length : Int)) = false := decide_eq_false c2
    have c2b1 : decide (6 < l0.length) = false := decide_eq_false (by omega)
    clear c2
    have H' := Aside0.mk H
    clear H
    go_enter Try.func17, Try.ntmps17
    go_wp2
    repeat (go_quiet (fail); try go_wp2)
    go_loopg [3] k (fun kq v3 w' => ∃ (x3_1 : Int), v3 = .int .i64 x3_1 ∧ Aside0 (corebankref14_Check.l0 kq l0 x3_1 = some r) ∧ Aside0 (kq ≤ k) ∧ Drawn0 w w')
    case atStart => exact ⟨(0), (by first | rfl | (simp; done) | (simp [*]; done)), H', ⟨Nat.le_refl _⟩, by repeat (first | exact Drawn0.refl _ | apply Drawn0.step)⟩
    case round =>
      clear H'
      try clear c1
      try clear c2
      try clear c2b0
      try clear c2b1
      try clear p2
      obtain ⟨x3_1, rfl, HA, HK1, ⟨m1, rfl⟩⟩ := hrel
      cases gk with
      | zero => exact absurd HA.out (by simp [corebankref14_Check.l0])
      | succ k1 =>
        have H := HA.out
        clear HA
        simp only [corebankref14_Check.l0] at H
        by_cases c3 : x3_1 < (l0.length : Int)
        · rw [if_pos c3] at H
          have c3b0 : decide (x3_1 < (l0.length : Int)) = true := decide_eq_true c3
          clear c3
          by_cases c4 : 0 ≤ x3_1
          · rw [if_pos c4] at H
            have c4b0 : decide (0 ≤ x3_1) = true := decide_eq_true c4
            clear c4
            by_cases c5 : ((rd_T50 l0 x3_1).f0) < 0
            · rw [if_pos c5] at H
              have c5b0 : decide (((rd_T50 l0 x3_1).f0) < 0) = true := decide_eq_true c5
              clear c5
              obtain rfl := Option.some.inj H
              have p143 : 0 ≤ (x3_1 : Int) := of_decide_eq_true (by first | (with_reducible assumption) | assumption)
              have q143 : x3_1 < (l0.length : Int) := of_decide_eq_true (by first | (with_reducible assumption) | assumption)
              obtain ⟨ad143, e143, hx143_0, hx143_1⟩ := at_T50 HR0.out x3_1 p143 q143
              cases e143
              replace p143 := eq_true p143
              replace q143 := eq_true q143
              go_wp2
              repeat (go_quiet (fail); try go_wp2)
              go_ret
              exact ⟨by first | rfl | (simp; done) | (simp [*]; done), by repeat (first | exact Drawn0.refl _ | apply Drawn0.step)⟩
            · rw [if_neg c5] at H
              have c5b0 : decide (((rd_T50 l0 x3_1).f0) < 0) = false := decide_eq_false c5
              clear c5
              by_cases c6 : ((rd_T50 l0 x3_1).f0) > 1000000000000
              · rw [if_pos c6] at H
                have c6b0 : decide (1000000000000 < ((rd_T50 l0 x3_1).f0)) = true := decide_eq_true c6
                clear c6
                obtain rfl := Option.some.inj H
                have p143 : 0 ≤ (x3_1 : Int) := of_decide_eq_true (by first | (with_reducible assumption) | assumption)
                have q143 : x3_1 < (l0.length : Int) := of_decide_eq_true (by first | (with_reducible assumption) | assumption)
                obtain ⟨ad143, e143, hx143_0, hx143_1⟩ := at_T50 HR0.out x3_1 p143 q143
                cases e143
                replace p143 := eq_true p143
                replace q143 := eq_true q143
                have p144 : 0 ≤ (x3_1 : Int) := of_decide_eq_true (by first | (with_reducible assumption) | assumption)
                have q144 : x3_1 < (l0.length : Int) := of_decide_eq_true (by first | (with_reducible assumption) | assumption)
                obtain ⟨ad144, e144, hx144_0, hx144_1⟩ := at_T50 HR0.out x3_1 p144 q144
                obtain rfl : ad143 = ad144 := (by injection e144)
                replace p144 := eq_true p144
                replace q144 := eq_true q144
                go_wp2
                repeat (go_quiet (fail); try go_wp2)
                go_ret
                exact ⟨by first | rfl | (simp; done) | (simp [*]; done), by repeat (first | exact Drawn0.refl _ | apply Drawn0.step)⟩
              · rw [if_neg c6] at H
                have c6b0 : decide (1000000000000 < ((rd_T50 l0 x3_1).f0)) = false := decide_eq_false c6
                clear c6
                by_cases c7 : ((rd_T50 l0 x3_1).f1) < 0
                · rw [if_pos c7] at H
                  have c7b0 : decide (((rd_T50 l0 x3_1).f1) < 0) = true := decide_eq_true c7
                  clear c7
                  obtain rfl := Option.some.inj H
                  have p143 : 0 ≤ (x3_1 : Int) := of_decide_eq_true (by first | (with_reducible assumption) | assumption)
                  have q143 : x3_1 < (l0.length : Int) := of_decide_eq_true (by first | (with_reducible assumption) | assumption)
                  obtain ⟨ad143, e143, hx143_0, hx143_1⟩ := at_T50 HR0.out x3_1 p143 q143
                  cases e143
                  replace p143 := eq_true p143
                  replace q143 := eq_true q143
                  have p144 : 0 ≤ (x3_1 : Int) := of_decide_eq_true (by first | (with_reducible assumption) | assumption)
                  have q144 : x3_1 < (l0.length : Int) := of_decide_eq_true (by first | (with_reducible assumption) | assumption)
                  obtain ⟨ad144, e144, hx144_0, hx144_1⟩ := at_T50 HR0.out x3_1 p144 q144
                  obtain rfl : ad143 = ad144 := (by injection e144)
                  replace p144 := eq_true p144
                  replace q144 := eq_true q144
                  have p145 : 0 ≤ (x3_1 : Int) := of_decide_eq_true (by first | (with_reducible assumption) | assumption)
                  have q145 : x3_1 < (l0.length : Int) := of_decide_eq_true (by first | (with_reducible assumption) | assumption)
                  obtain ⟨ad145, e145, hx145_0, hx145_1⟩ := at_T50 HR0.out x3_1 p145 q145
                  obtain rfl : ad143 = ad145 := (by injection e145)
                  replace p145 := eq_true p145
                  replace q145 := eq_true q145
                  go_wp2
                  repeat (go_quiet (fail); try go_wp2)
                  go_ret
                  exact ⟨by first | rfl | (simp; done) | (simp [*]; done), by repeat (first | exact Drawn0.refl _ | apply Drawn0.step)⟩
                · rw [if_neg c7] at H
                  have c7b0 : decide (((rd_T50 l0 x3_1).f1) < 0) = false := decide_eq_false c7
                  clear c7
                  by_cases c8 : ((rd_T50 l0 x3_1).f1) > 1000000
                  · rw [if_pos c8] at H
                    have c8b0 : decide (1000000 < ((rd_T50 l0 x3_1).f1)) = true := decide_eq_true c8
                    clear c8
                    obtain rfl := Option.some.inj H
                    have p143 : 0 ≤ (x3_1 : Int) := of_decide_eq_true (by first | (with_reducible assumption) | assumption)
                    have q143 : x3_1 < (l0.length : Int) := of_decide_eq_true (by first | (with_reducible assumption) | assumption)
                    obtain ⟨ad143, e143, hx143_0, hx143_1⟩ := at_T50 HR0.out x3_1 p143 q143
                    cases e143
                    replace p143 := eq_true p143
                    replace q143 := eq_true q143
                    have p144 : 0 ≤ (x3_1 : Int) := of_decide_eq_true (by first | (with_reducible assumption) | assumption)
                    have q144 : x3_1 < (l0.length : Int) := of_decide_eq_true (by first | (with_reducible assumption) | assumption)
                    obtain ⟨ad144, e144, hx144_0, hx144_1⟩ := at_T50 HR0.out x3_1 p144 q144
                    obtain rfl : ad143 = ad144 := (by injection e144)
                    replace p144 := eq_true p144
                    replace q144 := eq_true q144
                    have p145 : 0 ≤ (x3_1 : Int) := of_decide_eq_true (by first | (with_reducible assumption) | assumption)
                    have q145 : x3_1 < (l0.length : Int) := of_decide_eq_true (by first | (with_reducible assumption) | assumption)
                    obtain ⟨ad145, e145, hx145_0, hx145_1⟩ := at_T50 HR0.out x3_1 p145 q145
                    obtain rfl : ad143 = ad145 := (by injection e145)
                    replace p145 := eq_true p145
                    replace q145 := eq_true q145
                    have p146 : 0 ≤ (x3_1 : Int) := of_decide_eq_true (by first | (with_reducible assumption) | assumption)
                    have q146 : x3_1 < (l0.length : Int) := of_decide_eq_true (by first | (with_reducible assumption) | assumption)
                    obtain ⟨ad146, e146, hx146_0, hx146_1⟩ := at_T50 HR0.out x3_1 p146 q146
                    obtain rfl : ad143 = ad146 := (by injection e146)
                    replace p146 := eq_true p146
                    replace q146 := eq_true q146
                    go_wp2
                    repeat (go_quiet (fail); try go_wp2)
                    go_ret
                    exact ⟨by first | rfl | (simp; done) | (simp [*]; done), by repeat (first | exact Drawn0.refl _ | apply Drawn0.step)⟩
                  · rw [if_neg c8] at H
                    have c8b0 : decide (1000000 < ((rd_T50 l0 x3_1).f1)) = false := decide_eq_false c8
                    clear c8
                    have H' := Aside0.mk H
                    clear H
                    have p143 : 0 ≤ (x3_1 : Int) := of_decide_eq_true (by first | (with_reducible assumption) | assumption)
                    have q143 : x3_1 < (l0.length : Int) := of_decide_eq_true (by first | (with_reducible assumption) | assumption)
                    obtain ⟨ad143, e143, hx143_0, hx143_1⟩ := at_T50 HR0.out x3_1 p143 q143
                    cases e143
                    replace p143 := eq_true p143
                    replace q143 := eq_true q143
                    have p144 : 0 ≤ (x3_1 : Int) := of_decide_eq_true (by first | (with_reducible assumption) | assumption)
                    have q144 : x3_1 < (l0.length : Int) := of_decide_eq_true (by first | (with_reducible assumption) | assumption)
                    obtain ⟨ad144, e144, hx144_0, hx144_1⟩ := at_T50 HR0.out x3_1 p144 q144
                    obtain rfl : ad143 = ad144 := (by injection e144)
                    replace p144 := eq_true p144
                    replace q144 := eq_true q144
                    have p145 : 0 ≤ (x3_1 : Int) := of_decide_eq_true (by first | (with_reducible assumption) | assumption)
                    have q145 : x3_1 < (l0.length : Int) := of_decide_eq_true (by first | (with_reducible assumption) | assumption)
                    obtain ⟨ad145, e145, hx145_0, hx145_1⟩ := at_T50 HR0.out x3_1 p145 q145
                    obtain rfl : ad143 = ad145 := (by injection e145)
                    replace p145 := eq_true p145
                    replace q145 := eq_true q145
                    have p146 : 0 ≤ (x3_1 : Int) := of_decide_eq_true (by first | (with_reducible assumption) | assumption)
                    have q146 : x3_1 < (l0.length : Int) := of_decide_eq_true (by first | (with_reducible assumption) | assumption)
                    obtain ⟨ad146, e146, hx146_0, hx146_1⟩ := at_T50 HR0.out x3_1 p146 q146
                    obtain rfl : ad143 = ad146 := (by injection e146)
                    replace p146 := eq_true p146
                    replace q146 := eq_true q146
                    go_wp2
                    repeat (go_quiet (fail); try go_wp2)
                    go_roundg k1
                    case measure => have := HK1.out; omega
                    case rel => exact ⟨(wrap64 (x3_1 + 1)), (by first | rfl | (simp; done) | (simp [*]; done)), H', ⟨by have := HK1.out; omega⟩, by repeat (first | exact Drawn0.refl _ | apply Drawn0.step)⟩
          · rw [if_neg c4] at H
            exact absurd H (by simp)
        · rw [if_neg c3] at H
          have c3b0 : decide (x3_1 < (l0.length : Int)) = false := decide_eq_false c3
          clear c3
          have H' := Aside0.mk H
          clear H
          go_wp2
          repeat (go_quiet (fail); try go_wp2)
          go_loopg [4] k1 (fun kq v4 w' => ∃ (x4_2 : Int), v4 = .int .i64 x4_2 ∧ Aside0 (corebankref14_Check.l1 kq l0 x4_2 = some r) ∧ Aside0 (kq ≤ k1) ∧ Drawn0 w w')
          case atStart => exact ⟨(1), (by first | rfl | (simp; done) | (simp [*]; done)), H', ⟨Nat.le_refl _⟩, by repeat (first | exact Drawn0.refl _ | apply Drawn0.step)⟩
          case round =>
            clear H'
            try clear c1
            try clear p1
            try clear q1
            try clear hx1
            try clear c2
            try clear c2b0
            try clear c2b1
            try clear p2
            try clear c3
            try clear c3b0
            try clear c4
            try clear c4b0
            try clear c5
            try clear c5b0
            try clear c6
            try clear c6b0
            try clear p6
            try clear c7
            try clear c7b0
            try clear c8
            try clear c8b0
            try clear hx143_0
            try clear hx143_1
            try clear hx144_0
            try clear hx144_1
            try clear hx145_0
            try clear hx145_1
            try clear hx146_0
            try clear hx146_1
            try clear p143
            try clear p144
            try clear p145
            try clear p146
            try clear p2
            try clear q143
            try clear q144
            try clear q145
            try clear q146
            obtain ⟨x4_2, rfl, HA, HK2, ⟨m2, rfl⟩⟩ := hrel
            cases gk with
            | zero => exact absurd HA.out (by simp [corebankref14_Check.l1])
            | succ k2 =>
              have H := HA.out
              clear HA
              simp only [corebankref14_Check.l1] at H
              by_cases c9 : x4_2 < (l0.length : Int)
              · rw [if_pos c9] at H
                have c9b0 : decide (x4_2 < (l0.length : Int)) = true := decide_eq_true c9
                clear c9
                by_cases c10 : 0 ≤ x4_2
                · rw [if_pos c10] at H
                  have c10b0 : decide (0 ≤ x4_2) = true := decide_eq_true c10
                  clear c10
                  obtain ⟨ji11, hji11⟩ : ∃ j_ : Int, (wrap64 (x4_2 - 1)) = j_ := ⟨_, rfl⟩
                  replace H : (if 0 ≤ (ji11) then (if (ji11) < (l0.length : Int) then (if ((rd_T50 l0 x4_2).f0) ≤ ((rd_T50 l0 (ji11)).f0) then (some 10) else (corebankref14_Check.l1 k2 l0 (wrap64 (x4_2 + 1)))) else (none)) else (none)) = some r := by first | (rw [hji11] at H; exact H) | (simp only [hji11] at H ⊢; exact H)
                  have hji11w : (IntKind.i64.wrap (x4_2 - 1)) = ji11 := (i64_w _).trans hji11
                  by_cases c12 : 0 ≤ (ji11)
                  · rw [if_pos c12] at H
                    have c12b0 : decide (0 ≤ (ji11)) = true := decide_eq_true c12
                    clear c12
                    by_cases c13 : (ji11) < (l0.length : Int)
                    · rw [if_pos c13] at H
                      have c13b0 : decide ((ji11) < (l0.length : Int)) = true := decide_eq_true c13
                      clear c13
                      by_cases c14 : ((rd_T50 l0 x4_2).f0) ≤ ((rd_T50 l0 (ji11)).f0)
                      · rw [if_pos c14] at H
                        have c14b0 : decide (((rd_T50 l0 x4_2).f0) ≤ ((rd_T50 l0 (ji11)).f0)) = true := decide_eq_true c14
                        clear c14
                        obtain rfl := Option.some.inj H
                        have p147 : 0 ≤ (x4_2 : Int) := of_decide_eq_true (by first | (with_reducible assumption) | assumption)
                        have q147 : x4_2 < (l0.length : Int) := of_decide_eq_true (by first | (with_reducible assumption) | assumption)
                        obtain ⟨ad147, e147, hx147_0, hx147_1⟩ := at_T50 HR0.out x4_2 p147 q147
                        cases e147
                        replace p147 := eq_true p147
                        replace q147 := eq_true q147
                        have p148 : 0 ≤ ((ji11) : Int) := of_decide_eq_true (by first | (with_reducible assumption) | assumption)
                        have q148 : (ji11) < (l0.length : Int) := of_decide_eq_true (by first | (with_reducible assumption) | assumption)
                        obtain ⟨ad148, e148, hx148_0, hx148_1⟩ := at_T50 HR0.out (ji11) p148 q148
                        obtain rfl : ad147 = ad148 := (by injection e148)
                        replace p148 := eq_true p148
                        replace q148 := eq_true q148
                        go_wp2
                        repeat (go_quiet (fail); try go_wp2)
                        go_ret
                        exact ⟨by first | rfl | (simp; done) | (simp only [← hji11] <;> (first | rfl | simp)) | (simp [*]; done), by repeat (first | exact Drawn0.refl _ | apply Drawn0.step)⟩
                      · rw [if_neg c14] at H
                        have c14b0 : decide (((rd_T50 l0 x4_2).f0) ≤ ((rd_T50 l0 (ji11)).f0)) = false := decide_eq_false c14
                        clear c14
                        have H' := Aside0.mk H
                        clear H
                        have p147 : 0 ≤ (x4_2 : Int) := of_decide_eq_true (by first | (with_reducible assumption) | assumption)
                        have q147 : x4_2 < (l0.length : Int) := of_decide_eq_true (by first | (with_reducible assumption) | assumption)
                        obtain ⟨ad147, e147, hx147_0, hx147_1⟩ := at_T50 HR0.out x4_2 p147 q147
                        cases e147
                        replace p147 := eq_true p147
                        replace q147 := eq_true q147
                        have p148 : 0 ≤ ((ji11) : Int) := of_decide_eq_true (by first | (with_reducible assumption) | assumption)
                        have q148 : (ji11) < (l0.length : Int) := of_decide_eq_true (by first | (with_reducible assumption) | assumption)
                        obtain ⟨ad148, e148, hx148_0, hx148_1⟩ := at_T50 HR0.out (ji11) p148 q148
                        obtain rfl : ad147 = ad148 := (by injection e148)
                        replace p148 := eq_true p148
                        replace q148 := eq_true q148
                        go_wp2
                        repeat (go_quiet (fail); try go_wp2)
                        go_roundg k2
                        case measure => have := HK1.out; have := HK2.out; omega
                        case rel => exact ⟨(wrap64 (x4_2 + 1)), (by first | rfl | (simp; done) | (simp [*]; done)), H', ⟨by have := HK1.out; have := HK2.out; omega⟩, by repeat (first | exact Drawn0.refl _ | apply Drawn0.step)⟩
                    · rw [if_neg c13] at H
                      exact absurd H (by simp)
                  · rw [if_neg c12] at H
                    exact absurd H (by simp)
                · rw [if_neg c10] at H
                  exact absurd H (by simp)
              · rw [if_neg c9] at H
                have c9b0 : decide (x4_2 < (l0.length : Int)) = false := decide_eq_false c9
                clear c9
                by_cases c15 : (l0.length : Int) > 0
                · rw [if_pos c15] at H
                  have c15b0 : decide (0 < (l0.length : Int)) = true := decide_eq_true c15
                  have c15b1 : decide (0 < l0.length) = true := decide_eq_true (by omega)
                  clear c15
                  by_cases c16 : 0 < (l0.length : Int)
                  · rw [if_pos c16] at H
                    have c16b0 : decide (0 < (l0.length : Int)) = true := decide_eq_true c16
                    have c16b1 : decide (0 < l0.length) = true := decide_eq_true (by omega)
                    clear c16
                    by_cases c17 : ((rd_T50 l0 0).f0) = 0
                    · rw [if_pos c17] at H
                      have c17b0 : (((rd_T50 l0 0).f0) == 0) = true := beq_iff_eq.mpr c17
                      have c17b1 : (((rd_T50 l0 0).f0) != 0) = false := bne_eq_false_iff_eq.mpr c17
                      clear c17
                      obtain rfl := Option.some.inj H
                      have p149 : 0 ≤ (0 : Int) := (by omega)
                      have q149 : 0 < (l0.length : Int) := of_decide_eq_true (by first | (with_reducible assumption) | assumption)
                      obtain ⟨ad149, e149, hx149_0, hx149_1⟩ := at_T50 HR0.out 0 p149 q149
                      cases e149
                      have qi149 : (0 < l0.length) = True := eq_true (by omega)
                      (try rw [show ((0 : Int)).toNat = 0 from rfl] at hx149_0)
                      (try rw [show 0 * 2 = 0 from rfl] at hx149_0)
                      (try rw [Addr.add_zero'] at hx149_0)
                      (try rw [show ((0 : Int)).toNat = 0 from rfl] at hx149_1)
                      (try rw [show 0 * 2 = 0 from rfl] at hx149_1)
                      (try rw [Addr.add_zero'] at hx149_1)
                      replace p149 := eq_true p149
                      replace q149 := eq_true q149
                      go_wp2
                      repeat (go_quiet (fail); try go_wp2)
                      go_ret
                      exact ⟨by first | rfl | (simp; done) | (simp [*]; done), by repeat (first | exact Drawn0.refl _ | apply Drawn0.step)⟩
                    · rw [if_neg c17] at H
                      have c17b0 : (((rd_T50 l0 0).f0) == 0) = false := beq_eq_false_iff_ne.mpr c17
                      have c17b1 : (((rd_T50 l0 0).f0) != 0) = true := bne_iff_ne.mpr c17
                      obtain rfl := Option.some.inj H
                      have p149 : 0 ≤ (0 : Int) := (by omega)
                      have q149 : 0 < (l0.length : Int) := of_decide_eq_true (by first | (with_reducible assumption) | assumption)
                      obtain ⟨ad149, e149, hx149_0, hx149_1⟩ := at_T50 HR0.out 0 p149 q149
                      cases e149
                      have qi149 : (0 < l0.length) = True := eq_true (by omega)
                      (try rw [show ((0 : Int)).toNat = 0 from rfl] at hx149_0)
                      (try rw [show 0 * 2 = 0 from rfl] at hx149_0)
                      (try rw [Addr.add_zero'] at hx149_0)
                      (try rw [show ((0 : Int)).toNat = 0 from rfl] at hx149_1)
                      (try rw [show 0 * 2 = 0 from rfl] at hx149_1)
                      (try rw [Addr.add_zero'] at hx149_1)
                      replace p149 := eq_true p149
                      replace q149 := eq_true q149
                      go_wp2
                      repeat (go_quiet (fail); try go_wp2)
                      go_ret
                      exact ⟨by first | rfl | (simp; done) | (simp [*]; done), by repeat (first | exact Drawn0.refl _ | apply Drawn0.step)⟩
                  · rw [if_neg c16] at H
                    exact absurd H (by simp)
                · rw [if_neg c15] at H
                  have c15b0 : decide (0 < (l0.length : Int)) = false := decide_eq_false c15
                  have c15b1 : decide (0 < l0.length) = false := decide_eq_false (by omega)
                  clear c15
                  obtain rfl := Option.some.inj H
                  go_wp2
                  repeat (go_quiet (fail); try go_wp2)
                  go_ret
                  exact ⟨by first | rfl | (simp; done) | (simp [*]; done), by repeat (first | exact Drawn0.refl _ | apply Drawn0.step)⟩

end Go.Proofs.Ytlmabdiodopidaa.P
end
section
set_option linter.unusedVariables false
set_option linter.unusedSimpArgs false
namespace Go.Proofs.Ytlmabdiodopidaa.P
open Go.Proofs.Ytlmabdiodopidaa.G
attribute [local go_sem high] un_not64 un_noti run_add64
open Go.RowKit Go.Proofs.YtlmabdiodopidaaW.PrintWords Go.Proofs.YtlmabdiodopidaaW.PrintLast Go.Proofs.YtlmabdiodopidaaW.PrintMore
attribute [local go_sem] max2_int min2_int max_two min_two max_three min_three max_four min_four   -- for this text's walks alone
set_option linter.unusedVariables false
set_option linter.unusedSimpArgs false

/-! ### corebankref01_Of: function 41 -/
def corebankref01_Of.f (a0 : Int) : Option (Int × Int) := if a0 < 0 then (some ((-1), IntKind.u64.wrap (a0))) else (some (0, IntKind.u64.wrap (a0)))
set_option maxHeartbeats 8000000 in
set_option maxRecDepth 100000 in
theorem corebankref01_Of.calls (a0 : Int) (r1 : Int) (r2 : Int) (w : World) (h : corebankref01_Of.f a0 = some (r1, r2)) :
    Calls Try.prog 41 #[.int .i64 a0] w fun e w' => e = .returned (.agg #[.int .i64 r1, .int .u64 r2]) ∧ Below w.heap.size w w' := by
  have hu35 := Try.underlying35
  have HB := Aside0.mk (Below.refl w.heap.size w)
  have H : (if a0 < 0 then (some ((-1), IntKind.u64.wrap (a0))) else (some (0, IntKind.u64.wrap (a0)))) = some (r1, r2) := h
  clear h
  by_cases c2 : a0 < 0
  · rw [if_pos c2] at H
    have c2b0 : decide (a0 < 0) = true := decide_eq_true c2
    clear c2
    simp only [Option.some.injEq, Prod.mk.injEq] at H
    obtain ⟨rfl, rfl⟩ := H
    go_enter Try.func41, Try.ntmps41
    go_wp2_with (first | ((with_reducible refine gate_dst (N := 2) rfl ?_); refine box_event ?hg (N := 2) ?hd (cs := #[.int .i64 0, .int .u64 0]) (t := 35) ?hr ?_; (case hd => rfl); (case hg => rfl); (case hr => first | (go_simp; done) | (go_simp; rfl)); intro gb216 hg w3 hbox hb; have BK216 := Aside0.mk (hbox); have GW216 := ge HB hg; have GE216 := ge HB hg; replace HB := bs HB hb; clear hb hbox hg; obtain ⟨hcz4_0, hcz4_1, hfz4_0, hfz4_1⟩ := cz2 BK216))
    refine bodyPost_ret (results_cell_row rfl _ _ gb216 35 #[.int .i64 (-1), .int .u64 (IntKind.u64.wrap (a0))] (0, 0) _ rfl (bp BK216) Try.underlying35 rfl (by kernel_rfl)) rfl ?_
    exact ⟨by first | rfl | (simp [errW_none, errW_some] <;> rfl) | (simp [*, errW_none, errW_some] <;> rfl), hq HB⟩
  · rw [if_neg c2] at H
    have c2b0 : decide (a0 < 0) = false := decide_eq_false c2
    clear c2
    simp only [Option.some.injEq, Prod.mk.injEq] at H
    obtain ⟨rfl, rfl⟩ := H
    go_enter Try.func41, Try.ntmps41
    go_wp2_with (first | ((with_reducible refine gate_dst (N := 2) rfl ?_); refine box_event ?hg (N := 2) ?hd (cs := #[.int .i64 0, .int .u64 0]) (t := 35) ?hr ?_; (case hd => rfl); (case hg => rfl); (case hr => first | (go_simp; done) | (go_simp; rfl)); intro gb216 hg w5 hbox hb; have BK216 := Aside0.mk (hbox); have GW216 := ge HB hg; have GE216 := ge HB hg; replace HB := bs HB hb; clear hb hbox hg; obtain ⟨hcz6_0, hcz6_1, hfz6_0, hfz6_1⟩ := cz2 BK216))
    refine bodyPost_ret (results_cell_row rfl _ _ gb216 35 #[.int .i64 0, .int .u64 (IntKind.u64.wrap (a0))] (0, 0) _ rfl (bp BK216) Try.underlying35 rfl (by kernel_rfl)) rfl ?_
    exact ⟨by first | rfl | (simp [errW_none, errW_some] <;> rfl) | (simp [*, errW_none, errW_some] <;> rfl), hq HB⟩

end Go.Proofs.Ytlmabdiodopidaa.P
end
section
set_option linter.unusedVariables false
set_option linter.unusedSimpArgs false
namespace Go.Proofs.Ytlmabdiodopidaa.P
open Go.Proofs.Ytlmabdiodopidaa.G
attribute [local go_sem high] un_not64 un_noti run_add64
open Go.RowKit Go.Proofs.YtlmabdiodopidaaW.PrintWords Go.Proofs.YtlmabdiodopidaaW.PrintLast Go.Proofs.YtlmabdiodopidaaW.PrintMore
attribute [local go_sem] max2_int min2_int max_two min_two max_three min_three max_four min_four   -- for this text's walks alone
set_option linter.unusedVariables false
set_option linter.unusedSimpArgs false

attribute [local go_sem high] eqA35
/-! ### corebanklaw14_liveT: function 18 -/
def corebanklaw14_liveT.f (k : Nat)  : Option (Bool) := (some (([(⟨0, 10000⟩ : S50), (⟨1000, 20000⟩ : S50)] : List (S50)) : List (S50))).bind fun y217 => ((tier_Grains.f k (([(⟨100000, 15000⟩ : S43)] : List (S43))) 4392).bind fun bt223 => ((tier_Slices.f k y217 true (-1500)).bind fun t227 => ((corebankref14_Same.f k t227 (([(⟨1000, 10000⟩ : S43), (⟨500, 20000⟩ : S43)] : List (S43)))).bind fun t233 => (if t233 = true then ((tier_Slices.f k y217 false 1000).bind fun t234 => ((corebankref14_Same.f k t234 (([(⟨1000, 20000⟩ : S43)] : List (S43)))).bind fun t240 => (if t240 = true then ((tier_Rate.f k y217 999).bind fun t241 => (if t241 = 10000 then ((corebankref01_Of.f 6588000000000).bind fun bt242 => (if (bt223.1 == bt242.1 && (bt223.2.1 == bt242.2)) = true then (if bt223.2.2 = 0 then ((tier_Check.f (([(⟨1, 1⟩ : S50)] : List (S50)))).bind fun t247 => (some (t247 == 1))) else (some false)) else (some false))) else (some false))) else (some false)))) else (some false)))))
theorem corebanklaw14_liveT.mono : ∀ k, LeO (corebanklaw14_liveT.f k ) (corebanklaw14_liveT.f (k + 1) ) := by
  intro  k
  unfold corebanklaw14_liveT.f
  repeat' first
      | (with_reducible exact corebankref14_Same.mono _ _ _)
      | (with_reducible exact tier_Grains.mono _ _ _)
      | (with_reducible exact tier_Rate.mono _ _ _)
      | (with_reducible exact tier_Slices.mono _ _ _ _)
      | (with_reducible exact LeO.refl _)
      | (with_reducible exact LeO.none _)
      | (with_reducible refine LeO.ite ?_ ?_)
      | (with_reducible refine LeO.bind ?_ (fun _ => ?_))
      | exact corebankref14_Same.mono _ _ _
      | exact tier_Grains.mono _ _ _
      | exact tier_Rate.mono _ _ _
      | exact tier_Slices.mono _ _ _ _
      | exact LeO.none _
      | refine LeO.ite ?_ ?_
      | refine LeO.bind ?_ (fun _ => ?_)
def corebanklaw14_liveT.T3 : Bool × List (List Nat × List Nat) := (true, [([], []), ([0], [0]), ([], []), ([], []), ([2, 3], [2, 3]), ([1, 4, 1], [1, 4]), ([5, 5], [5]), ([6], [6]), ([7, 6, 6], [6, 7]), ([6], [6]), ([9, 6], [6, 9]), ([8, 10, 8, 6], [6, 8, 10]), ([6, 11], [6, 11]), ([12, 11], [12]), ([13], [13]), ([14, 13, 13], [13, 14]), ([15, 13], [13, 15]), ([13, 16], [13, 16]), ([17, 15], [17]), ([18], [18]), ([18, 18], [18]), ([19, 20, 18], [18, 19, 20]), ([18, 21], [18, 21]), ([22, 20], [22]), ([23], [23]), ([24, 23], [23, 24]), ([23, 25], [23, 25]), ([26, 23], [26]), ([27], [27]), ([28, 27], [27, 28]), ([29, 27, 27], [27, 29]), ([30, 27], [27, 30]), ([27, 31], [27, 31]), ([32, 30, 0, 1, 2, 3, 4, 5, 6, 7, 8, 9, 10, 11, 12, 13, 14, 15, 16, 17, 18, 19, 20, 21, 22, 23, 24, 25, 26, 27, 28, 29, 30, 31, 32], [32])])
def corebanklaw14_liveT.B3 : List Nat := [0, 1, 0, 0, 12, 31, 63, 127, 255, 127, 639, 2047, 4095, 8191, 16383, 32767, 65535, 131071, 262143, 524287, 524287, 2097151, 4194303, 8388607, 16777215, 33554431, 67108863, 134217727, 268435455, 536870911, 1073741823, 2147483647, 4294967295, 8589934591]
theorem corebanklaw14_liveT.tab3 : rtab .any (opsOf Try.f18 3) = corebanklaw14_liveT.T3 := by kernel_rfl
theorem corebanklaw14_liveT.bits3 : waitsOk corebanklaw14_liveT.T3.2 corebanklaw14_liveT.B3 = true := by kernel_rfl
set_option maxHeartbeats 8000000 in
set_option maxRecDepth 100000 in
theorem corebanklaw14_liveT.calls (k : Nat)  (r : Bool) (w : World) (hT : r = true) (h : corebanklaw14_liveT.f k  = some r) :
    Calls Try.prog 18 #[] w fun e w' => e = .returned (.bool r) ∧ Below w.heap.size w w' := by
  have hu50 := Try.underlying50
  have hu43 := Try.underlying43
  have hu35 := Try.underlying35
  have HB := Aside0.mk (Below.refl w.heap.size w)
  have HT := Aside0.mk hT
  clear hT
  have H : ((some (([(⟨0, 10000⟩ : S50), (⟨1000, 20000⟩ : S50)] : List (S50)) : List (S50))).bind fun y217 => ((tier_Grains.f k (([(⟨100000, 15000⟩ : S43)] : List (S43))) 4392).bind fun bt223 => ((tier_Slices.f k y217 true (-1500)).bind fun t227 => ((corebankref14_Same.f k t227 (([(⟨1000, 10000⟩ : S43), (⟨500, 20000⟩ : S43)] : List (S43)))).bind fun t233 => (if t233 = true then ((tier_Slices.f k y217 false 1000).bind fun t234 => ((corebankref14_Same.f k t234 (([(⟨1000, 20000⟩ : S43)] : List (S43)))).bind fun t240 => (if t240 = true then ((tier_Rate.f k y217 999).bind fun t241 => (if t241 = 10000 then ((corebankref01_Of.f 6588000000000).bind fun bt242 => (if (bt223.1 == bt242.1 && (bt223.2.1 == bt242.2)) = true then (if bt223.2.2 = 0 then ((tier_Check.f (([(⟨1, 1⟩ : S50)] : List (S50)))).bind fun t247 => (some (t247 == 1))) else (some false)) else (some false))) else (some false))) else (some false)))) else (some false)))))) = some r := h
  clear h
  obtain ⟨y217, hy217⟩ : ∃ y_ : List (S50), y_ = (([(⟨0, 10000⟩ : S50), (⟨1000, 20000⟩ : S50)] : List (S50))) := ⟨_, rfl⟩
  replace H : ((tier_Grains.f k (([(⟨100000, 15000⟩ : S43)] : List (S43))) 4392).bind fun bt223 => ((tier_Slices.f k y217 true (-1500)).bind fun t227 => ((corebankref14_Same.f k t227 (([(⟨1000, 10000⟩ : S43), (⟨500, 20000⟩ : S43)] : List (S43)))).bind fun t233 => (if t233 = true then ((tier_Slices.f k y217 false 1000).bind fun t234 => ((corebankref14_Same.f k t234 (([(⟨1000, 20000⟩ : S43)] : List (S43)))).bind fun t240 => (if t240 = true then ((tier_Rate.f k y217 999).bind fun t241 => (if t241 = 10000 then ((corebankref01_Of.f 6588000000000).bind fun bt242 => (if (bt223.1 == bt242.1 && (bt223.2.1 == bt242.2)) = true then (if bt223.2.2 = 0 then ((tier_Check.f (([(⟨1, 1⟩ : S50)] : List (S50)))).bind fun t247 => (some (t247 == 1))) else (some false)) else (some false))) else (some false))) else (some false)))) else (some false))))) = some r := by first | (rw [hy217]; with_reducible exact H) | (have H2_ := (Option.bind_some _ _).symm.trans H; rw [hy217]; with_reducible exact H2_) | (have H2_ := (Option.bind_some _ _).symm.trans H; with_reducible exact H2_) | with_reducible exact H | (rw [hy217]; exact H) | exact H
  have Ny217 := Aside0.mk hy217
  clear hy217
  obtain ⟨y220, hy220⟩ : ∃ y_ : List (S43), y_ = (([(⟨100000, 15000⟩ : S43)] : List (S43))) := ⟨_, rfl⟩
  replace H : ((tier_Grains.f k y220 4392).bind fun bt223 => ((tier_Slices.f k y217 true (-1500)).bind fun t227 => ((corebankref14_Same.f k t227 (([(⟨1000, 10000⟩ : S43), (⟨500, 20000⟩ : S43)] : List (S43)))).bind fun t233 => (if t233 = true then ((tier_Slices.f k y217 false 1000).bind fun t234 => ((corebankref14_Same.f k t234 (([(⟨1000, 20000⟩ : S43)] : List (S43)))).bind fun t240 => (if t240 = true then ((tier_Rate.f k y217 999).bind fun t241 => (if t241 = 10000 then ((corebankref01_Of.f 6588000000000).bind fun bt242 => (if (bt223.1 == bt242.1 && (bt223.2.1 == bt242.2)) = true then (if bt223.2.2 = 0 then ((tier_Check.f (([(⟨1, 1⟩ : S50)] : List (S50)))).bind fun t247 => (some (t247 == 1))) else (some false)) else (some false))) else (some false))) else (some false)))) else (some false))))) = some r := by first | (rw [hy220]; with_reducible exact H) | (have H2_ := (Option.bind_some _ _).symm.trans H; rw [hy220]; with_reducible exact H2_) | (have H2_ := (Option.bind_some _ _).symm.trans H; with_reducible exact H2_) | with_reducible exact H | (rw [hy220]; exact H) | exact H
  have Ny220 := Aside0.mk hy220
  clear hy220
  replace H := Option.bind_eq_some_iff.mp H
  obtain ⟨⟨t223, t224, t225⟩, A10, H⟩ := H
  replace H : ((tier_Slices.f k y217 true (-1500)).bind fun t227 => ((corebankref14_Same.f k t227 (([(⟨1000, 10000⟩ : S43), (⟨500, 20000⟩ : S43)] : List (S43)))).bind fun t233 => (if t233 = true then ((tier_Slices.f k y217 false 1000).bind fun t234 => ((corebankref14_Same.f k t234 (([(⟨1000, 20000⟩ : S43)] : List (S43)))).bind fun t240 => (if t240 = true then ((tier_Rate.f k y217 999).bind fun t241 => (if t241 = 10000 then ((corebankref01_Of.f 6588000000000).bind fun bt242 => (if (t223 == bt242.1 && (t224 == bt242.2)) = true then (if t225 = 0 then ((tier_Check.f (([(⟨1, 1⟩ : S50)] : List (S50)))).bind fun t247 => (some (t247 == 1))) else (some false)) else (some false))) else (some false))) else (some false)))) else (some false)))) = some r := H
  have A1 := Aside0.mk A10
  clear A10
  replace H := Option.bind_eq_some_iff.mp H
  obtain ⟨t227, A20, H⟩ := H
  replace H : ((corebankref14_Same.f k t227 (([(⟨1000, 10000⟩ : S43), (⟨500, 20000⟩ : S43)] : List (S43)))).bind fun t233 => (if t233 = true then ((tier_Slices.f k y217 false 1000).bind fun t234 => ((corebankref14_Same.f k t234 (([(⟨1000, 20000⟩ : S43)] : List (S43)))).bind fun t240 => (if t240 = true then ((tier_Rate.f k y217 999).bind fun t241 => (if t241 = 10000 then ((corebankref01_Of.f 6588000000000).bind fun bt242 => (if (t223 == bt242.1 && (t224 == bt242.2)) = true then (if t225 = 0 then ((tier_Check.f (([(⟨1, 1⟩ : S50)] : List (S50)))).bind fun t247 => (some (t247 == 1))) else (some false)) else (some false))) else (some false))) else (some false)))) else (some false))) = some r := H
  have A2 := Aside0.mk A20
  clear A20
  obtain ⟨y230, hy230⟩ : ∃ y_ : List (S43), y_ = (([(⟨1000, 10000⟩ : S43), (⟨500, 20000⟩ : S43)] : List (S43))) := ⟨_, rfl⟩
  replace H : ((corebankref14_Same.f k t227 y230).bind fun t233 => (if t233 = true then ((tier_Slices.f k y217 false 1000).bind fun t234 => ((corebankref14_Same.f k t234 (([(⟨1000, 20000⟩ : S43)] : List (S43)))).bind fun t240 => (if t240 = true then ((tier_Rate.f k y217 999).bind fun t241 => (if t241 = 10000 then ((corebankref01_Of.f 6588000000000).bind fun bt242 => (if (t223 == bt242.1 && (t224 == bt242.2)) = true then (if t225 = 0 then ((tier_Check.f (([(⟨1, 1⟩ : S50)] : List (S50)))).bind fun t247 => (some (t247 == 1))) else (some false)) else (some false))) else (some false))) else (some false)))) else (some false))) = some r := by first | (rw [hy230]; with_reducible exact H) | (have H2_ := (Option.bind_some _ _).symm.trans H; rw [hy230]; with_reducible exact H2_) | (have H2_ := (Option.bind_some _ _).symm.trans H; with_reducible exact H2_) | with_reducible exact H | (rw [hy230]; exact H) | exact H
  have Ny230 := Aside0.mk hy230
  clear hy230
  replace H := Option.bind_eq_some_iff.mp H
  obtain ⟨t233, A30, H⟩ := H
  replace H : (if t233 = true then ((tier_Slices.f k y217 false 1000).bind fun t234 => ((corebankref14_Same.f k t234 (([(⟨1000, 20000⟩ : S43)] : List (S43)))).bind fun t240 => (if t240 = true then ((tier_Rate.f k y217 999).bind fun t241 => (if t241 = 10000 then ((corebankref01_Of.f 6588000000000).bind fun bt242 => (if (t223 == bt242.1 && (t224 == bt242.2)) = true then (if t225 = 0 then ((tier_Check.f (([(⟨1, 1⟩ : S50)] : List (S50)))).bind fun t247 => (some (t247 == 1))) else (some false)) else (some false))) else (some false))) else (some false)))) else (some false)) = some r := H
  have A3 := Aside0.mk A30
  clear A30
  by_cases c4 : t233 = true
  · subst c4
    have H1 : ((tier_Slices.f k y217 false 1000).bind fun t234 => ((corebankref14_Same.f k t234 (([(⟨1000, 20000⟩ : S43)] : List (S43)))).bind fun t240 => (if t240 = true then ((tier_Rate.f k y217 999).bind fun t241 => (if t241 = 10000 then ((corebankref01_Of.f 6588000000000).bind fun bt242 => (if (t223 == bt242.1 && (t224 == bt242.2)) = true then (if t225 = 0 then ((tier_Check.f (([(⟨1, 1⟩ : S50)] : List (S50)))).bind fun t247 => (some (t247 == 1))) else (some false)) else (some false))) else (some false))) else (some false)))) = some r := by rw [if_pos rfl] at H; exact H
    clear H
    have H := H1
    clear H1
    replace H := Option.bind_eq_some_iff.mp H
    obtain ⟨t234, A50, H⟩ := H
    replace H : ((corebankref14_Same.f k t234 (([(⟨1000, 20000⟩ : S43)] : List (S43)))).bind fun t240 => (if t240 = true then ((tier_Rate.f k y217 999).bind fun t241 => (if t241 = 10000 then ((corebankref01_Of.f 6588000000000).bind fun bt242 => (if (t223 == bt242.1 && (t224 == bt242.2)) = true then (if t225 = 0 then ((tier_Check.f (([(⟨1, 1⟩ : S50)] : List (S50)))).bind fun t247 => (some (t247 == 1))) else (some false)) else (some false))) else (some false))) else (some false))) = some r := H
    have A5 := Aside0.mk A50
    clear A50
    obtain ⟨y237, hy237⟩ : ∃ y_ : List (S43), y_ = (([(⟨1000, 20000⟩ : S43)] : List (S43))) := ⟨_, rfl⟩
    replace H : ((corebankref14_Same.f k t234 y237).bind fun t240 => (if t240 = true then ((tier_Rate.f k y217 999).bind fun t241 => (if t241 = 10000 then ((corebankref01_Of.f 6588000000000).bind fun bt242 => (if (t223 == bt242.1 && (t224 == bt242.2)) = true then (if t225 = 0 then ((tier_Check.f (([(⟨1, 1⟩ : S50)] : List (S50)))).bind fun t247 => (some (t247 == 1))) else (some false)) else (some false))) else (some false))) else (some false))) = some r := by first | (rw [hy237]; with_reducible exact H) | (have H2_ := (Option.bind_some _ _).symm.trans H; rw [hy237]; with_reducible exact H2_) | (have H2_ := (Option.bind_some _ _).symm.trans H; with_reducible exact H2_) | with_reducible exact H | (rw [hy237]; exact H) | exact H
    have Ny237 := Aside0.mk hy237
    clear hy237
    replace H := Option.bind_eq_some_iff.mp H
    obtain ⟨t240, A60, H⟩ := H
    replace H : (if t240 = true then ((tier_Rate.f k y217 999).bind fun t241 => (if t241 = 10000 then ((corebankref01_Of.f 6588000000000).bind fun bt242 => (if (t223 == bt242.1 && (t224 == bt242.2)) = true then (if t225 = 0 then ((tier_Check.f (([(⟨1, 1⟩ : S50)] : List (S50)))).bind fun t247 => (some (t247 == 1))) else (some false)) else (some false))) else (some false))) else (some false)) = some r := H
    have A6 := Aside0.mk A60
    clear A60
    by_cases c7 : t240 = true
    · subst c7
      have H1 : ((tier_Rate.f k y217 999).bind fun t241 => (if t241 = 10000 then ((corebankref01_Of.f 6588000000000).bind fun bt242 => (if (t223 == bt242.1 && (t224 == bt242.2)) = true then (if t225 = 0 then ((tier_Check.f (([(⟨1, 1⟩ : S50)] : List (S50)))).bind fun t247 => (some (t247 == 1))) else (some false)) else (some false))) else (some false))) = some r := by rw [if_pos rfl] at H; exact H
      clear H
      have H := H1
      clear H1
      replace H := Option.bind_eq_some_iff.mp H
      obtain ⟨t241, A80, H⟩ := H
      replace H : (if t241 = 10000 then ((corebankref01_Of.f 6588000000000).bind fun bt242 => (if (t223 == bt242.1 && (t224 == bt242.2)) = true then (if t225 = 0 then ((tier_Check.f (([(⟨1, 1⟩ : S50)] : List (S50)))).bind fun t247 => (some (t247 == 1))) else (some false)) else (some false))) else (some false)) = some r := H
      have A8 := Aside0.mk A80
      clear A80
      by_cases c9 : t241 = 10000
      · rw [if_pos c9] at H
        have c9b0 : (t241 == 10000) = true := beq_iff_eq.mpr c9
        have c9b1 : (t241 != 10000) = false := bne_eq_false_iff_eq.mpr c9
        clear c9
        replace H := Option.bind_eq_some_iff.mp H
        obtain ⟨⟨t242, t243⟩, A100, H⟩ := H
        replace H : (if (t223 == t242 && (t224 == t243)) = true then (if t225 = 0 then ((tier_Check.f (([(⟨1, 1⟩ : S50)] : List (S50)))).bind fun t247 => (some (t247 == 1))) else (some false)) else (some false)) = some r := H
        have A10 := Aside0.mk A100
        clear A100
        by_cases c11 : (t223 == t242 && (t224 == t243)) = true
        · rw [if_pos c11] at H
          have c11b0 : (t223 == t242 && (t224 == t243)) = true := c11
          (try (have c11b1 : decide (t223 = t242 && (t224 == t243)) = true := by simpa using c11))
          (try (have c11b2 : (t223 == t242 && (t224 == t243)) = true := by simpa using c11))
          clear c11
          by_cases c12 : t225 = 0
          · rw [if_pos c12] at H
            have c12b0 : (t225 == 0) = true := beq_iff_eq.mpr c12
            have c12b1 : (t225 != 0) = false := bne_eq_false_iff_eq.mpr c12
            clear c12
            obtain ⟨y244, hy244⟩ : ∃ y_ : List (S50), y_ = (([(⟨1, 1⟩ : S50)] : List (S50))) := ⟨_, rfl⟩
            replace H : ((tier_Check.f y244).bind fun t247 => (some (t247 == 1))) = some r := by first | (rw [hy244]; with_reducible exact H) | (have H2_ := (Option.bind_some _ _).symm.trans H; rw [hy244]; with_reducible exact H2_) | (have H2_ := (Option.bind_some _ _).symm.trans H; with_reducible exact H2_) | with_reducible exact H | (rw [hy244]; exact H) | exact H
            have Ny244 := Aside0.mk hy244
            clear hy244
            replace H := Option.bind_eq_some_iff.mp H
            obtain ⟨t247, A130, H⟩ := H
            replace H : (some (t247 == 1)) = some r := H
            have A13 := Aside0.mk A130
            clear A130
            obtain rfl := Option.some.inj H
            go_enter Try.func18, Try.ntmps18
            try go_wp2_with (first | ((with_reducible refine gate_dst (N := 6) rfl ?_); (try (refine gate_guard (by rfl) ?_; dsimp only)); refine Kd.R_lit k50 _ 50 ?hg (N := 6) ?hd (xs := ([(⟨0, 10000⟩ : S50), (⟨1000, 20000⟩ : S50)] : List (S50))) (inner := [.int .i64 0, .int .i64 10000, .int .i64 1000, .int .i64 20000]) (ok := fun _ => True) (okp := fun _ => True) ?hr ?hp (fun _ hk => hk) trivial (Below.refl _ _) (Nat.le_refl _) (by simp) ?_; (case hd => rfl); (case hg => rfl); (case hr => first | (go_simp; done) | (go_simp; rfl)); (case hp => exact (Reps.c2 (show Kd.M k50 _ _ _ (⟨0, 10000⟩ : S50) [.int .i64 0, .int .i64 10000] from (k50_mkM _ _ _ (⟨0, 10000⟩ : S50) )) (Reps.c2 (show Kd.M k50 _ _ _ (⟨1000, 20000⟩ : S50) [.int .i64 1000, .int .i64 20000] from (k50_mkM _ _ _ (⟨1000, 20000⟩ : S50) )) (Reps.none _ _)))); intro v218 w14 ho15 hb hg_ hnew_; clear hg_ hnew_; (first | rw [← Ny217.out] at ho15 | (simp only [Int.reduceToNat] at ho15; rw [← Ny217.out] at ho15)); have HO219 := Aside0.mk (Kd.R_lower ho15 (below_size (hq HB))); replace HB := bs HB hb; clear hb ho15) | ((with_reducible refine gate_dst (N := 9) rfl ?_); (try (refine gate_guard (by rfl) ?_; dsimp only)); refine Kd.R_lit k43 _ 43 ?hg (N := 9) ?hd (xs := ([(⟨100000, 15000⟩ : S43)] : List (S43))) (inner := [.int .i64 100000, .int .i64 15000]) (ok := fun _ => True) (okp := fun _ => True) ?hr ?hp (fun _ hk => hk) trivial (Below.refl _ _) (Nat.le_refl _) (by simp) ?_; (case hd => rfl); (case hg => rfl); (case hr => first | (go_simp; done) | (go_simp; rfl)); (case hp => exact (Reps.c2 (show Kd.M k43 _ _ _ (⟨100000, 15000⟩ : S43) [.int .i64 100000, .int .i64 15000] from (k43_mkM _ _ _ (⟨100000, 15000⟩ : S43) )) (Reps.none _ _))); intro v221 w16 ho17 hb hg_ hnew_; clear hg_ hnew_; (first | rw [← Ny220.out] at ho17 | (simp only [Int.reduceToNat] at ho17; rw [← Ny220.out] at ho17)); have HO222 := Aside0.mk (Kd.R_lower ho17 (below_size (hq HB))); replace HO219 := kb HO219 hb; replace HB := bs HB hb; clear hb ho17; obtain ⟨Ao18, co18, eo18⟩ := Kd.R_slice HO222.out; subst eo18) | ((with_reducible refine gate_callee (f := 24) rfl ?_); refine goesL_ (some 10) rfl rfl Try.func24 (by kernel_rfl) rfl #[.slice Ao18 y220.length co18, .int .i64 4392] rfl zm ?_; (with_reducible refine (tier_Grains.calls k _ _ y220 4392 t223 t224 t225 _ ?side1 ?side2 A1.out).mono ?_); (case side1 => repeat (first | exact (Kd.R_reads' HO222.out).2.2 | (with_reducible refine Kd.C_alloc ?_ _) | (with_reducible refine Kd.C_drewN ?_ _) | (with_reducible refine Kd.C_drew ?_))); (case side2 => exact (Kd.R_reads' HO222.out).2.1); rintro e w19 ⟨rfl, hb⟩; refine ⟨_, rfl, ?_⟩; replace HO219 := kb HO219 hb; replace HO222 := kb HO222 hb; replace HB := bs HB hb; (try clear hb); (try clear hb2); (try clear hk); (try clear hi)) | ((with_reducible refine gate_dst (N := 2) rfl ?_); (try (refine gate_guard (by rfl) ?_; dsimp only)); refine box_event ?hg (N := 2) ?hd (cs := #[.int .i64 0, .int .u64 0]) (t := 35) ?hr ?_; (case hd => rfl); (case hg => rfl); (case hr => first | (go_simp; done) | (go_simp; rfl)); intro gb226 hg w20 hbox hb; have BK226 := Aside0.mk (hbox); have GW226 := ge HB hg; have GE226 := ge HB hg; replace HO219 := kb HO219 hb; replace HO222 := kb HO222 hb; replace HB := bs HB hb; clear hb hbox hg; obtain ⟨hcz21_0, hcz21_1, hfz21_0, hfz21_1⟩ := cz2 BK226; obtain ⟨Ao22, co22, eo22⟩ := Kd.R_slice HO219.out; subst eo22))
            have n0_ : Aside0 (Kd.R k50 50 ((w20.setCell ⟨gb226, 0, none⟩ (.int .i64 t223)).setCell ⟨gb226, 1, none⟩ (.int .u64 t224)) w.heap.size (fun _ => True) (.slice Ao22 y217.length co22) y217) := ⟨by (with_reducible repeat (first | apply Kd.R_alloc | apply Kd.R_drewN | apply Kd.R_drew)); exact Kd.R_mono (Kd.R_far (p := ⟨gb226, 1, none⟩) (Kd.R_far (p := ⟨gb226, 0, none⟩) (Kd.R_types HO219.out BK226.out (by decide)) (fun _ hk => hk.2) (.int .i64 t223)) (fun _ hk => hk.2) (.int .u64 t224)) (fun _ hk => trivial)⟩
            have n1_ : Aside0 (Kd.R k43 43 ((w20.setCell ⟨gb226, 0, none⟩ (.int .i64 t223)).setCell ⟨gb226, 1, none⟩ (.int .u64 t224)) w.heap.size (fun _ => True) (.slice Ao18 y220.length co18) y220) := ⟨by (with_reducible repeat (first | apply Kd.R_alloc | apply Kd.R_drewN | apply Kd.R_drew)); exact Kd.R_mono (Kd.R_far (p := ⟨gb226, 1, none⟩) (Kd.R_far (p := ⟨gb226, 0, none⟩) (Kd.R_types HO222.out BK226.out (by decide)) (fun _ hk => hk.2) (.int .i64 t223)) (fun _ hk => hk.2) (.int .u64 t224)) (fun _ hk => trivial)⟩
            have n2_ : Aside0 (((w20.setCell ⟨gb226, 0, none⟩ (.int .i64 t223)).setCell ⟨gb226, 1, none⟩ (.int .u64 t224)).heap[gb226]? = some (.cells #[.int .i64 t223, .int .u64 t224] 35 (0, 0))) := ⟨bp BK226⟩
            have n3_ : Aside0 (Below w.heap.size w ((w20.setCell ⟨gb226, 0, none⟩ (.int .i64 t223)).setCell ⟨gb226, 1, none⟩ (.int .u64 t224))) := ⟨hq HB⟩
            (try clear HO219)
            (try clear HO222)
            (try clear BK226)
            (try clear HB)
            generalize ((w20.setCell ⟨gb226, 0, none⟩ (.int .i64 t223)).setCell ⟨gb226, 1, none⟩ (.int .u64 t224)) = w23 at n0_ n1_ n2_ n3_ ⊢
            have HO219 := n0_
            have HO222 := n1_
            have BK226 := n2_
            have HB := n3_
            clear n0_ n1_ n2_ n3_
            replace HO219 := Aside0.mk (Kd.R_drew HO219.out)
            replace HO222 := Aside0.mk (Kd.R_drew HO222.out)
            replace BK226 := bd1 BK226
            replace HB := hb1 HB
            refine start_ (n := 34) (S := fun w' => w'.cell? ⟨gb226, 0, none⟩ = some (.int .i64 t223) ∧ w'.cell? ⟨gb226, 1, none⟩ = some (.int .u64 t224)) (ds := []) #[false, false, false, false, false, false, false, false, false, false, false, false, false, false, false, false, false, false, false, false, false, false, false, false, false, false, false, false, false, false, false, false, false, false] (by kernel_rfl) rfl rfl ⟨(blk_cell BK226.out 0).trans rfl, (blk_cell BK226.out 1).trans rfl⟩ (fun hHeld => ?_); refine with_tabW corebanklaw14_liveT.tab3 corebanklaw14_liveT.bits3 (fun HT_ HW_ => ?_)
            generalize w23.drew = w24 at HO219 HO222 BK226 HB hHeld ⊢
            refine pz (i := 0) (N := some 13) #[true, false, false, false, false, false, false, false, false, false, false, false, false, false, false, false, false, false, false, false, false, false, false, false, false, false, false, false, false, false, false, false, false, false] rfl rfl (any_of HT_.out (by kernel_rfl)) (fun _ _ _ h => h) ?_
            refine pz (i := 2) (N := some 15) #[true, false, true, false, false, false, false, false, false, false, false, false, false, false, false, false, false, false, false, false, false, false, false, false, false, false, false, false, false, false, false, false, false, false] rfl rfl (any_of HT_.out (by kernel_rfl)) (fun _ _ _ h => h) ?_
            refine pz (i := 3) (N := some 16) #[true, false, true, true, false, false, false, false, false, false, false, false, false, false, false, false, false, false, false, false, false, false, false, false, false, false, false, false, false, false, false, false, false, false] rfl rfl (any_of HT_.out (by kernel_rfl)) (fun _ _ _ h => h) ?_
            refine join_ (σ := Value × Value × Value × Value) 23 #[true, true, true, true, true, true, true, true, true, true, true, false, false, false, false, false, false, false, false, false, false, false, false, false, false, false, false, false, false, false, false, false, false, false] (fun s_ => [(14, s_.1), (17, s_.2.1), (18, .bool true), (21, s_.2.2.1), (23, s_.2.2.2), (19, .bool true), (20, .slice Ao22 y217.length co22), (22, .agg #[.int .i64 1000, .int .i64 20000])]) (fun s_ w' => (w'.cell? ⟨gb226, 0, none⟩ = some (.int .i64 t223) ∧ w'.cell? ⟨gb226, 1, none⟩ = some (.int .u64 t224)) ∧ (Kd.R k50 50 w' w.heap.size (fun _ => True) (.slice Ao22 y217.length co22) y217) ∧ (Kd.R k43 43 w' w.heap.size (fun k_ => some k_ ≠ (s_.1 : Value).ownBlock ∧ some k_ ≠ (s_.2.1 : Value).ownBlock ∧ some k_ ≠ (s_.2.2.1 : Value).ownBlock ∧ some k_ ≠ (s_.2.2.2 : Value).ownBlock) (.slice Ao18 y220.length co18) y220) ∧ (Kd.R k43 43 w' w.heap.size (fun k_ => some k_ ≠ (.slice Ao18 y220.length co18 : Value).ownBlock ∧ some k_ ≠ (s_.2.1 : Value).ownBlock ∧ some k_ ≠ (s_.2.2.1 : Value).ownBlock ∧ some k_ ≠ (s_.2.2.2 : Value).ownBlock) s_.1 t227) ∧ (Kd.R k43 43 w' w.heap.size (fun k_ => some k_ ≠ (.slice Ao18 y220.length co18 : Value).ownBlock ∧ some k_ ≠ (s_.1 : Value).ownBlock ∧ some k_ ≠ (s_.2.2.1 : Value).ownBlock ∧ some k_ ≠ (s_.2.2.2 : Value).ownBlock) s_.2.1 y230) ∧ (Kd.R k43 43 w' w.heap.size (fun k_ => some k_ ≠ (.slice Ao18 y220.length co18 : Value).ownBlock ∧ some k_ ≠ (s_.1 : Value).ownBlock ∧ some k_ ≠ (s_.2.1 : Value).ownBlock ∧ some k_ ≠ (s_.2.2.2 : Value).ownBlock) s_.2.2.1 t234) ∧ (Kd.R k43 43 w' w.heap.size (fun k_ => some k_ ≠ (.slice Ao18 y220.length co18 : Value).ownBlock ∧ some k_ ≠ (s_.1 : Value).ownBlock ∧ some k_ ≠ (s_.2.1 : Value).ownBlock ∧ some k_ ≠ (s_.2.2.1 : Value).ownBlock) s_.2.2.2 y237) ∧ (w'.heap[gb226]? = some (.cells #[.int .i64 t223, .int .u64 t224] 35 (0, 0))) ∧ (Below w.heap.size w w')) ?_ ?_
            rotate_left
            · intro hCont
              refine two_ (i := 1) (j := 4) (Ni := some 14) (Nj := some 17) #[true, true, true, true, false, false, false, false, false, false, false, false, false, false, false, false, false, false, false, false, false, false, false, false, false, false, false, false, false, false, false, false, false, false] #[true, false, true, true, true, false, false, false, false, false, false, false, false, false, false, false, false, false, false, false, false, false, false, false, false, false, false, false, false, false, false, false, false, false] rfl rfl rfl rfl (two_of HT_.out (by kernel_rfl)) (by decide) (by decide) (fun K hK => ?_) (fun K hK => ?_)
              · skip
                refine goes_ Try.func22 (by kernel_rfl) rfl #[.slice Ao22 y217.length co22, .bool true, .int .i64 (-1500)] (by rfl) rfl rfl zm ?_
                with_reducible refine (tier_Slices.calls k _ _ y217 true (-1500) t227 _ ?side1 ?side2 A2.out).mono ?_
                (case side1 => repeat (first | exact (Kd.R_reads' HO219.out).2.2 | (with_reducible refine Kd.C_alloc ?_ _) | (with_reducible refine Kd.C_drewN ?_ _) | (with_reducible refine Kd.C_drew ?_)))
                (case side2 => exact (Kd.R_reads' HO219.out).2.1)
                rintro e w25 ⟨v228, rfl, ho0, hb⟩
                refine ⟨_, rfl, ?_⟩
                have HO229 := Aside0.mk (Kd.R_lower (Kd.R_new' ho0 (Kd.R_lt (kq HO222))) (below_size (hq HB)))
                replace HO219 := kb HO219 hb
                replace HO222 := Aside0.mk (Kd.R_elder' (kq HO222) (Kd.R_base ho0) hb)
                replace BK226 := bb BK226 hb
                replace HB := bs HB hb
                (try clear hb)
                (try clear hb2)
                (try clear hk)
                (try clear hi)
                (try clear ho0)
                refine hK.out _ _ ⟨(blk_cell BK226.out 0).trans rfl, (blk_cell BK226.out 1).trans rfl⟩ (fun hHeld => ?_)
                clear hK K
                refine norm_ (a' := ?_) ?_ ?_
                rotate_left
                · show Act.put _ (some 14) _ = _
                  simp only [Act.put, List.setIfInBounds_toArray, List.set_cons_zero, List.set_cons_succ, i64_w, i32_w]
                  rfl
                refine one_ (i := 4) (N := some 17) #[true, true, true, true, true, false, false, false, false, false, false, false, false, false, false, false, false, false, false, false, false, false, false, false, false, false, false, false, false, false, false, false, false, false] rfl rfl (one_of HT_.out (by kernel_rfl)) (by decide) (fun K hK => ?_)
                refine Kd.R_lit_step k43 _ 43 ?hg (N := 17) ?hd (xs := ([(⟨1000, 10000⟩ : S43), (⟨500, 20000⟩ : S43)] : List (S43))) (inner := [.int .i64 1000, .int .i64 10000, .int .i64 500, .int .i64 20000]) (ok := fun _ => True) (okp := fun _ => True) ?hr ?hp (fun _ hk => hk) trivial (Below.refl _ _) (Nat.le_refl _) (by simp) ?_; (case hd => rfl); (case hg => rfl); (case hr => first | (go_simp; done) | (go_simp; rfl)); (case hp => exact (Reps.c2 (show Kd.M k43 _ _ _ (⟨1000, 10000⟩ : S43) [.int .i64 1000, .int .i64 10000] from (k43_mkM _ _ _ (⟨1000, 10000⟩ : S43) )) (Reps.c2 (show Kd.M k43 _ _ _ (⟨500, 20000⟩ : S43) [.int .i64 500, .int .i64 20000] from (k43_mkM _ _ _ (⟨500, 20000⟩ : S43) )) (Reps.none _ _))))
                intro v231 w26 ho27 hb hg_ hnew_
                clear hg_ hnew_
                (first | rw [← Ny230.out] at ho27 | (simp only [Int.reduceToNat] at ho27; rw [← Ny230.out] at ho27))
                have HO232 := Aside0.mk (Kd.R_lower (Kd.R_new' (Kd.R_new' ho27 (Kd.R_lt (kq HO222))) (Kd.R_lt (kq HO229))) (below_size (hq HB)))
                replace HO219 := kb HO219 hb
                replace HO222 := Aside0.mk (Kd.R_elder' (kq HO222) (Kd.R_base ho27) hb)
                replace HO229 := Aside0.mk (Kd.R_elder' (kq HO229) (Kd.R_base ho27) hb)
                replace BK226 := bb BK226 hb
                replace HB := bs HB hb
                clear hb ho27
                obtain ⟨Ao28, co28, eo28⟩ := Kd.R_slice HO229.out
                (first | subst eo28 | (injection eo28 with f1_ f2_ f3_; have f4_ := f1_.symm; have f5_ := f3_.symm; clear f1_ f2_ f3_; subst f4_; subst f5_))
                obtain ⟨Ao29, co29, eo29⟩ := Kd.R_slice HO232.out
                (first | subst eo29 | (injection eo29 with f1_ f2_ f3_; have f4_ := f1_.symm; have f5_ := f3_.symm; clear f1_ f2_ f3_; subst f4_; subst f5_))
                refine hK.out _ _ ⟨(blk_cell BK226.out 0).trans rfl, (blk_cell BK226.out 1).trans rfl⟩ (fun hHeld => ?_)
                clear hK K
                refine norm_ (a' := ?_) ?_ ?_
                rotate_left
                · show Act.put _ (some 17) _ = _
                  simp only [Act.put, List.setIfInBounds_toArray, List.set_cons_zero, List.set_cons_succ, i64_w, i32_w]
                  rfl
                refine one_ (i := 5) (N := some 18) #[true, true, true, true, true, true, false, false, false, false, false, false, false, false, false, false, false, false, false, false, false, false, false, false, false, false, false, false, false, false, false, false, false, false] rfl rfl (one_of HT_.out (by kernel_rfl)) (by decide) (fun K hK => ?_)
                refine goes_ Try.func21 (by kernel_rfl) rfl #[.slice Ao28 t227.length co28, .slice Ao29 y230.length co29] (by rfl) rfl rfl zm ?_
                with_reducible refine (corebankref14_Same.calls k _ _ t227 _ _ y230 true _ ?side1 ?side2 ?side3 ?side4 A3.out).mono ?_
                (case side1 => repeat (first | exact (Kd.R_reads' HO229.out).2.2 | (with_reducible refine Kd.C_alloc ?_ _) | (with_reducible refine Kd.C_drewN ?_ _) | (with_reducible refine Kd.C_drew ?_)))
                (case side2 => exact (Kd.R_reads' HO229.out).2.1)
                (case side3 => repeat (first | exact (Kd.R_reads' HO232.out).2.2 | (with_reducible refine Kd.C_alloc ?_ _) | (with_reducible refine Kd.C_drewN ?_ _) | (with_reducible refine Kd.C_drew ?_)))
                (case side4 => exact (Kd.R_reads' HO232.out).2.1)
                rintro e w' ⟨rfl, ⟨nd, rfl⟩⟩
                refine ⟨_, rfl, ?_⟩
                refine hK.out _ _ ⟨(blk_cell BK226.out 0).trans rfl, (blk_cell BK226.out 1).trans rfl⟩ (fun hHeld => ?_)
                clear hK K
                refine norm_ (a' := ?_) ?_ ?_
                rotate_left
                · show Act.put _ (some 18) _ = _
                  simp only [Act.put, List.setIfInBounds_toArray, List.set_cons_zero, List.set_cons_succ, i64_w, i32_w]
                  rfl
                refine pz (i := 6) (N := some 19) #[true, true, true, true, true, true, true, false, false, false, false, false, false, false, false, false, false, false, false, false, false, false, false, false, false, false, false, false, false, false, false, false, false, false] rfl rfl (any_of HT_.out (by kernel_rfl)) (fun _ _ _ h => h) ?_
                refine pz (i := 7) (N := some 20) #[true, true, true, true, true, true, true, true, false, false, false, false, false, false, false, false, false, false, false, false, false, false, false, false, false, false, false, false, false, false, false, false, false, false] rfl rfl (any_of HT_.out (by kernel_rfl)) (fun _ _ _ h => h) ?_
                refine pz (i := 9) (N := some 22) #[true, true, true, true, true, true, true, true, false, true, false, false, false, false, false, false, false, false, false, false, false, false, false, false, false, false, false, false, false, false, false, false, false, false] rfl rfl (any_of HT_.out (by kernel_rfl)) (fun _ _ _ h => h) ?_
                refine two_ (i := 8) (j := 10) (Ni := some 21) (Nj := some 23) #[true, true, true, true, true, true, true, true, true, true, false, false, false, false, false, false, false, false, false, false, false, false, false, false, false, false, false, false, false, false, false, false, false, false] #[true, true, true, true, true, true, true, true, false, true, true, false, false, false, false, false, false, false, false, false, false, false, false, false, false, false, false, false, false, false, false, false, false, false] rfl rfl rfl rfl (two_of HT_.out (by kernel_rfl)) (by decide) (by decide) (fun K hK => ?_) (fun K hK => ?_)
                · skip
                  refine goes_ Try.func22 (by kernel_rfl) rfl #[.slice Ao22 y217.length co22, .bool false, .int .i64 1000] (by rfl) rfl rfl zm ?_
                  with_reducible refine (tier_Slices.calls k _ _ y217 false 1000 t234 _ ?side1 ?side2 A5.out).mono ?_
                  (case side1 => repeat (first | exact (Kd.R_reads' HO219.out).2.2 | (with_reducible refine Kd.C_alloc ?_ _) | (with_reducible refine Kd.C_drewN ?_ _) | (with_reducible refine Kd.C_drew ?_)))
                  (case side2 => exact (Kd.R_reads' HO219.out).2.1)
                  rintro e w30 ⟨v235, rfl, ho0, hb⟩
                  refine ⟨_, rfl, ?_⟩
                  have HO236 := Aside0.mk (Kd.R_lower (Kd.R_new' (Kd.R_new' (Kd.R_new' ho0 (Kd.R_lt (kq HO222))) (Kd.R_lt (kq HO229))) (Kd.R_lt (kq HO232))) (below_size (hq HB)))
                  replace HO219 := kb HO219 hb
                  replace HO222 := Aside0.mk (Kd.R_elder' (kq HO222) (Kd.R_base ho0) hb)
                  replace HO229 := Aside0.mk (Kd.R_elder' (kq HO229) (Kd.R_base ho0) hb)
                  replace HO232 := Aside0.mk (Kd.R_elder' (kq HO232) (Kd.R_base ho0) hb)
                  replace BK226 := bb BK226 hb
                  replace HB := bs HB hb
                  (try clear hb)
                  (try clear hb2)
                  (try clear hk)
                  (try clear hi)
                  (try clear ho0)
                  refine hK.out _ _ ⟨(blk_cell BK226.out 0).trans rfl, (blk_cell BK226.out 1).trans rfl⟩ (fun hHeld => ?_)
                  clear hK K
                  refine norm_ (a' := ?_) ?_ ?_
                  rotate_left
                  · show Act.put _ (some 21) _ = _
                    simp only [Act.put, List.setIfInBounds_toArray, List.set_cons_zero, List.set_cons_succ, i64_w, i32_w]
                    rfl
                  refine one_ (i := 10) (N := some 23) #[true, true, true, true, true, true, true, true, true, true, true, false, false, false, false, false, false, false, false, false, false, false, false, false, false, false, false, false, false, false, false, false, false, false] rfl rfl (one_of HT_.out (by kernel_rfl)) (by decide) (fun K hK => ?_)
                  refine Kd.R_lit_step k43 _ 43 ?hg (N := 23) ?hd (xs := ([(⟨1000, 20000⟩ : S43)] : List (S43))) (inner := [.int .i64 1000, .int .i64 20000]) (ok := fun _ => True) (okp := fun _ => True) ?hr ?hp (fun _ hk => hk) trivial (Below.refl _ _) (Nat.le_refl _) (by simp) ?_; (case hd => rfl); (case hg => rfl); (case hr => first | (go_simp; done) | (go_simp; rfl)); (case hp => exact (Reps.c2 (show Kd.M k43 _ _ _ (⟨1000, 20000⟩ : S43) [.int .i64 1000, .int .i64 20000] from (k43_mkM _ _ _ (⟨1000, 20000⟩ : S43) )) (Reps.none _ _)))
                  intro v238 w31 ho32 hb hg_ hnew_
                  clear hg_ hnew_
                  (first | rw [← Ny237.out] at ho32 | (simp only [Int.reduceToNat] at ho32; rw [← Ny237.out] at ho32))
                  have HO239 := Aside0.mk (Kd.R_lower (Kd.R_new' (Kd.R_new' (Kd.R_new' (Kd.R_new' ho32 (Kd.R_lt (kq HO222))) (Kd.R_lt (kq HO229))) (Kd.R_lt (kq HO232))) (Kd.R_lt (kq HO236))) (below_size (hq HB)))
                  replace HO219 := kb HO219 hb
                  replace HO222 := Aside0.mk (Kd.R_elder' (kq HO222) (Kd.R_base ho32) hb)
                  replace HO229 := Aside0.mk (Kd.R_elder' (kq HO229) (Kd.R_base ho32) hb)
                  replace HO232 := Aside0.mk (Kd.R_elder' (kq HO232) (Kd.R_base ho32) hb)
                  replace HO236 := Aside0.mk (Kd.R_elder' (kq HO236) (Kd.R_base ho32) hb)
                  replace BK226 := bb BK226 hb
                  replace HB := bs HB hb
                  clear hb ho32
                  refine hK.out _ _ ⟨(blk_cell BK226.out 0).trans rfl, (blk_cell BK226.out 1).trans rfl⟩ (fun hHeld => ?_)
                  clear hK K
                  refine norm_ (a' := ?_) ?_ ?_
                  rotate_left
                  · show Act.put _ (some 23) _ = _
                    simp only [Act.put, List.setIfInBounds_toArray, List.set_cons_zero, List.set_cons_succ, i64_w, i32_w]
                    rfl
                  exact norm_ (by simp only [putAll, Act.put, List.setIfInBounds_toArray, List.set_cons_zero, List.set_cons_succ]) (hCont (.slice Ao28 t227.length co28, .slice Ao29 y230.length co29, v235, v238) _ ⟨hHeld, (kq HO219), (by (with_reducible repeat (first | apply Kd.R_alloc | apply Kd.R_drewN | apply Kd.R_drew)); exact Kd.R_mono HO222.out (fun _ hk => ⟨hk.1.1.1.2, ⟨hk.1.1.2, ⟨hk.1.2, hk.2⟩⟩⟩)), (by (with_reducible repeat (first | apply Kd.R_alloc | apply Kd.R_drewN | apply Kd.R_drew)); exact Kd.R_mono HO229.out (fun _ hk => ⟨hk.1.1.1.2, ⟨hk.1.1.2, ⟨hk.1.2, hk.2⟩⟩⟩)), (by (with_reducible repeat (first | apply Kd.R_alloc | apply Kd.R_drewN | apply Kd.R_drew)); exact Kd.R_mono HO232.out (fun _ hk => ⟨hk.1.1.1.2, ⟨hk.1.1.2, ⟨hk.1.2, hk.2⟩⟩⟩)), (by (with_reducible repeat (first | apply Kd.R_alloc | apply Kd.R_drewN | apply Kd.R_drew)); exact Kd.R_mono HO236.out (fun _ hk => ⟨hk.1.1.1.2, ⟨hk.1.1.2, ⟨hk.1.2, hk.2⟩⟩⟩)), (by (with_reducible repeat (first | apply Kd.R_alloc | apply Kd.R_drewN | apply Kd.R_drew)); exact Kd.R_mono HO239.out (fun _ hk => ⟨hk.1.1.1.2, ⟨hk.1.1.2, ⟨hk.1.2, hk.2⟩⟩⟩)), (bq BK226), (hq HB)⟩)
                · skip
                  refine Kd.R_lit_step k43 _ 43 ?hg (N := 23) ?hd (xs := ([(⟨1000, 20000⟩ : S43)] : List (S43))) (inner := [.int .i64 1000, .int .i64 20000]) (ok := fun _ => True) (okp := fun _ => True) ?hr ?hp (fun _ hk => hk) trivial (Below.refl _ _) (Nat.le_refl _) (by simp) ?_; (case hd => rfl); (case hg => rfl); (case hr => first | (go_simp; done) | (go_simp; rfl)); (case hp => exact (Reps.c2 (show Kd.M k43 _ _ _ (⟨1000, 20000⟩ : S43) [.int .i64 1000, .int .i64 20000] from (k43_mkM _ _ _ (⟨1000, 20000⟩ : S43) )) (Reps.none _ _)))
                  intro v238 w30 ho31 hb hg_ hnew_
                  clear hg_ hnew_
                  (first | rw [← Ny237.out] at ho31 | (simp only [Int.reduceToNat] at ho31; rw [← Ny237.out] at ho31))
                  have HO239 := Aside0.mk (Kd.R_lower (Kd.R_new' (Kd.R_new' (Kd.R_new' ho31 (Kd.R_lt (kq HO222))) (Kd.R_lt (kq HO229))) (Kd.R_lt (kq HO232))) (below_size (hq HB)))
                  replace HO219 := kb HO219 hb
                  replace HO222 := Aside0.mk (Kd.R_elder' (kq HO222) (Kd.R_base ho31) hb)
                  replace HO229 := Aside0.mk (Kd.R_elder' (kq HO229) (Kd.R_base ho31) hb)
                  replace HO232 := Aside0.mk (Kd.R_elder' (kq HO232) (Kd.R_base ho31) hb)
                  replace BK226 := bb BK226 hb
                  replace HB := bs HB hb
                  clear hb ho31
                  refine hK.out _ _ ⟨(blk_cell BK226.out 0).trans rfl, (blk_cell BK226.out 1).trans rfl⟩ (fun hHeld => ?_)
                  clear hK K
                  refine norm_ (a' := ?_) ?_ ?_
                  rotate_left
                  · show Act.put _ (some 23) _ = _
                    simp only [Act.put, List.setIfInBounds_toArray, List.set_cons_zero, List.set_cons_succ, i64_w, i32_w]
                    rfl
                  refine one_ (i := 8) (N := some 21) #[true, true, true, true, true, true, true, true, true, true, true, false, false, false, false, false, false, false, false, false, false, false, false, false, false, false, false, false, false, false, false, false, false, false] rfl rfl (one_of HT_.out (by kernel_rfl)) (by decide) (fun K hK => ?_)
                  refine goes_ Try.func22 (by kernel_rfl) rfl #[.slice Ao22 y217.length co22, .bool false, .int .i64 1000] (by rfl) rfl rfl zm ?_
                  with_reducible refine (tier_Slices.calls k _ _ y217 false 1000 t234 _ ?side1 ?side2 A5.out).mono ?_
                  (case side1 => repeat (first | exact (Kd.R_reads' HO219.out).2.2 | (with_reducible refine Kd.C_alloc ?_ _) | (with_reducible refine Kd.C_drewN ?_ _) | (with_reducible refine Kd.C_drew ?_)))
                  (case side2 => exact (Kd.R_reads' HO219.out).2.1)
                  rintro e w32 ⟨v235, rfl, ho0, hb⟩
                  refine ⟨_, rfl, ?_⟩
                  have HO236 := Aside0.mk (Kd.R_lower (Kd.R_new' (Kd.R_new' (Kd.R_new' (Kd.R_new' ho0 (Kd.R_lt (kq HO222))) (Kd.R_lt (kq HO229))) (Kd.R_lt (kq HO232))) (Kd.R_lt (kq HO239))) (below_size (hq HB)))
                  replace HO219 := kb HO219 hb
                  replace HO222 := Aside0.mk (Kd.R_elder' (kq HO222) (Kd.R_base ho0) hb)
                  replace HO229 := Aside0.mk (Kd.R_elder' (kq HO229) (Kd.R_base ho0) hb)
                  replace HO232 := Aside0.mk (Kd.R_elder' (kq HO232) (Kd.R_base ho0) hb)
                  replace HO239 := Aside0.mk (Kd.R_elder' (kq HO239) (Kd.R_base ho0) hb)
                  replace BK226 := bb BK226 hb
                  replace HB := bs HB hb
                  (try clear hb)
                  (try clear hb2)
                  (try clear hk)
                  (try clear hi)
                  (try clear ho0)
                  refine hK.out _ _ ⟨(blk_cell BK226.out 0).trans rfl, (blk_cell BK226.out 1).trans rfl⟩ (fun hHeld => ?_)
                  clear hK K
                  refine norm_ (a' := ?_) ?_ ?_
                  rotate_left
                  · show Act.put _ (some 21) _ = _
                    simp only [Act.put, List.setIfInBounds_toArray, List.set_cons_zero, List.set_cons_succ, i64_w, i32_w]
                    rfl
                  exact norm_ (by simp only [putAll, Act.put, List.setIfInBounds_toArray, List.set_cons_zero, List.set_cons_succ]) (hCont (.slice Ao28 t227.length co28, .slice Ao29 y230.length co29, v235, v238) _ ⟨hHeld, (kq HO219), (by (with_reducible repeat (first | apply Kd.R_alloc | apply Kd.R_drewN | apply Kd.R_drew)); exact Kd.R_mono HO222.out (fun _ hk => ⟨hk.1.1.1.2, ⟨hk.1.1.2, ⟨hk.2, hk.1.2⟩⟩⟩)), (by (with_reducible repeat (first | apply Kd.R_alloc | apply Kd.R_drewN | apply Kd.R_drew)); exact Kd.R_mono HO229.out (fun _ hk => ⟨hk.1.1.1.2, ⟨hk.1.1.2, ⟨hk.2, hk.1.2⟩⟩⟩)), (by (with_reducible repeat (first | apply Kd.R_alloc | apply Kd.R_drewN | apply Kd.R_drew)); exact Kd.R_mono HO232.out (fun _ hk => ⟨hk.1.1.1.2, ⟨hk.1.1.2, ⟨hk.2, hk.1.2⟩⟩⟩)), (by (with_reducible repeat (first | apply Kd.R_alloc | apply Kd.R_drewN | apply Kd.R_drew)); exact Kd.R_mono HO236.out (fun _ hk => ⟨hk.1.1.1.2, ⟨hk.1.1.2, ⟨hk.1.2, hk.2⟩⟩⟩)), (by (with_reducible repeat (first | apply Kd.R_alloc | apply Kd.R_drewN | apply Kd.R_drew)); exact Kd.R_mono HO239.out (fun _ hk => ⟨hk.1.1.1.2, ⟨hk.1.1.2, ⟨hk.1.2, hk.2⟩⟩⟩)), (bq BK226), (hq HB)⟩)
              · skip
                refine Kd.R_lit_step k43 _ 43 ?hg (N := 17) ?hd (xs := ([(⟨1000, 10000⟩ : S43), (⟨500, 20000⟩ : S43)] : List (S43))) (inner := [.int .i64 1000, .int .i64 10000, .int .i64 500, .int .i64 20000]) (ok := fun _ => True) (okp := fun _ => True) ?hr ?hp (fun _ hk => hk) trivial (Below.refl _ _) (Nat.le_refl _) (by simp) ?_; (case hd => rfl); (case hg => rfl); (case hr => first | (go_simp; done) | (go_simp; rfl)); (case hp => exact (Reps.c2 (show Kd.M k43 _ _ _ (⟨1000, 10000⟩ : S43) [.int .i64 1000, .int .i64 10000] from (k43_mkM _ _ _ (⟨1000, 10000⟩ : S43) )) (Reps.c2 (show Kd.M k43 _ _ _ (⟨500, 20000⟩ : S43) [.int .i64 500, .int .i64 20000] from (k43_mkM _ _ _ (⟨500, 20000⟩ : S43) )) (Reps.none _ _))))
                intro v231 w25 ho26 hb hg_ hnew_
                clear hg_ hnew_
                (first | rw [← Ny230.out] at ho26 | (simp only [Int.reduceToNat] at ho26; rw [← Ny230.out] at ho26))
                have HO232 := Aside0.mk (Kd.R_lower (Kd.R_new' ho26 (Kd.R_lt (kq HO222))) (below_size (hq HB)))
                replace HO219 := kb HO219 hb
                replace HO222 := Aside0.mk (Kd.R_elder' (kq HO222) (Kd.R_base ho26) hb)
                replace BK226 := bb BK226 hb
                replace HB := bs HB hb
                clear hb ho26
                refine hK.out _ _ ⟨(blk_cell BK226.out 0).trans rfl, (blk_cell BK226.out 1).trans rfl⟩ (fun hHeld => ?_)
                clear hK K
                refine norm_ (a' := ?_) ?_ ?_
                rotate_left
                · show Act.put _ (some 17) _ = _
                  simp only [Act.put, List.setIfInBounds_toArray, List.set_cons_zero, List.set_cons_succ, i64_w, i32_w]
                  rfl
                refine one_ (i := 1) (N := some 14) #[true, true, true, true, true, false, false, false, false, false, false, false, false, false, false, false, false, false, false, false, false, false, false, false, false, false, false, false, false, false, false, false, false, false] rfl rfl (one_of HT_.out (by kernel_rfl)) (by decide) (fun K hK => ?_)
                refine goes_ Try.func22 (by kernel_rfl) rfl #[.slice Ao22 y217.length co22, .bool true, .int .i64 (-1500)] (by rfl) rfl rfl zm ?_
                with_reducible refine (tier_Slices.calls k _ _ y217 true (-1500) t227 _ ?side1 ?side2 A2.out).mono ?_
                (case side1 => repeat (first | exact (Kd.R_reads' HO219.out).2.2 | (with_reducible refine Kd.C_alloc ?_ _) | (with_reducible refine Kd.C_drewN ?_ _) | (with_reducible refine Kd.C_drew ?_)))
                (case side2 => exact (Kd.R_reads' HO219.out).2.1)
                rintro e w27 ⟨v228, rfl, ho0, hb⟩
                refine ⟨_, rfl, ?_⟩
                have HO229 := Aside0.mk (Kd.R_lower (Kd.R_new' (Kd.R_new' ho0 (Kd.R_lt (kq HO222))) (Kd.R_lt (kq HO232))) (below_size (hq HB)))
                replace HO219 := kb HO219 hb
                replace HO222 := Aside0.mk (Kd.R_elder' (kq HO222) (Kd.R_base ho0) hb)
                replace HO232 := Aside0.mk (Kd.R_elder' (kq HO232) (Kd.R_base ho0) hb)
                replace BK226 := bb BK226 hb
                replace HB := bs HB hb
                (try clear hb)
                (try clear hb2)
                (try clear hk)
                (try clear hi)
                (try clear ho0)
                obtain ⟨Ao28, co28, eo28⟩ := Kd.R_slice HO229.out
                (first | subst eo28 | (injection eo28 with f1_ f2_ f3_; have f4_ := f1_.symm; have f5_ := f3_.symm; clear f1_ f2_ f3_; subst f4_; subst f5_))
                obtain ⟨Ao29, co29, eo29⟩ := Kd.R_slice HO232.out
                (first | subst eo29 | (injection eo29 with f1_ f2_ f3_; have f4_ := f1_.symm; have f5_ := f3_.symm; clear f1_ f2_ f3_; subst f4_; subst f5_))
                refine hK.out _ _ ⟨(blk_cell BK226.out 0).trans rfl, (blk_cell BK226.out 1).trans rfl⟩ (fun hHeld => ?_)
                clear hK K
                refine norm_ (a' := ?_) ?_ ?_
                rotate_left
                · show Act.put _ (some 14) _ = _
                  simp only [Act.put, List.setIfInBounds_toArray, List.set_cons_zero, List.set_cons_succ, i64_w, i32_w]
                  rfl
                refine one_ (i := 5) (N := some 18) #[true, true, true, true, true, true, false, false, false, false, false, false, false, false, false, false, false, false, false, false, false, false, false, false, false, false, false, false, false, false, false, false, false, false] rfl rfl (one_of HT_.out (by kernel_rfl)) (by decide) (fun K hK => ?_)
                refine goes_ Try.func21 (by kernel_rfl) rfl #[.slice Ao28 t227.length co28, .slice Ao29 y230.length co29] (by rfl) rfl rfl zm ?_
                with_reducible refine (corebankref14_Same.calls k _ _ t227 _ _ y230 true _ ?side1 ?side2 ?side3 ?side4 A3.out).mono ?_
                (case side1 => repeat (first | exact (Kd.R_reads' HO229.out).2.2 | (with_reducible refine Kd.C_alloc ?_ _) | (with_reducible refine Kd.C_drewN ?_ _) | (with_reducible refine Kd.C_drew ?_)))
                (case side2 => exact (Kd.R_reads' HO229.out).2.1)
                (case side3 => repeat (first | exact (Kd.R_reads' HO232.out).2.2 | (with_reducible refine Kd.C_alloc ?_ _) | (with_reducible refine Kd.C_drewN ?_ _) | (with_reducible refine Kd.C_drew ?_)))
                (case side4 => exact (Kd.R_reads' HO232.out).2.1)
                rintro e w' ⟨rfl, ⟨nd, rfl⟩⟩
                refine ⟨_, rfl, ?_⟩
                refine hK.out _ _ ⟨(blk_cell BK226.out 0).trans rfl, (blk_cell BK226.out 1).trans rfl⟩ (fun hHeld => ?_)
                clear hK K
                refine norm_ (a' := ?_) ?_ ?_
                rotate_left
                · show Act.put _ (some 18) _ = _
                  simp only [Act.put, List.setIfInBounds_toArray, List.set_cons_zero, List.set_cons_succ, i64_w, i32_w]
                  rfl
                refine pz (i := 6) (N := some 19) #[true, true, true, true, true, true, true, false, false, false, false, false, false, false, false, false, false, false, false, false, false, false, false, false, false, false, false, false, false, false, false, false, false, false] rfl rfl (any_of HT_.out (by kernel_rfl)) (fun _ _ _ h => h) ?_
                refine pz (i := 7) (N := some 20) #[true, true, true, true, true, true, true, true, false, false, false, false, false, false, false, false, false, false, false, false, false, false, false, false, false, false, false, false, false, false, false, false, false, false] rfl rfl (any_of HT_.out (by kernel_rfl)) (fun _ _ _ h => h) ?_
                refine pz (i := 9) (N := some 22) #[true, true, true, true, true, true, true, true, false, true, false, false, false, false, false, false, false, false, false, false, false, false, false, false, false, false, false, false, false, false, false, false, false, false] rfl rfl (any_of HT_.out (by kernel_rfl)) (fun _ _ _ h => h) ?_
                refine two_ (i := 8) (j := 10) (Ni := some 21) (Nj := some 23) #[true, true, true, true, true, true, true, true, true, true, false, false, false, false, false, false, false, false, false, false, false, false, false, false, false, false, false, false, false, false, false, false, false, false] #[true, true, true, true, true, true, true, true, false, true, true, false, false, false, false, false, false, false, false, false, false, false, false, false, false, false, false, false, false, false, false, false, false, false] rfl rfl rfl rfl (two_of HT_.out (by kernel_rfl)) (by decide) (by decide) (fun K hK => ?_) (fun K hK => ?_)
                · skip
                  refine goes_ Try.func22 (by kernel_rfl) rfl #[.slice Ao22 y217.length co22, .bool false, .int .i64 1000] (by rfl) rfl rfl zm ?_
                  with_reducible refine (tier_Slices.calls k _ _ y217 false 1000 t234 _ ?side1 ?side2 A5.out).mono ?_
                  (case side1 => repeat (first | exact (Kd.R_reads' HO219.out).2.2 | (with_reducible refine Kd.C_alloc ?_ _) | (with_reducible refine Kd.C_drewN ?_ _) | (with_reducible refine Kd.C_drew ?_)))
                  (case side2 => exact (Kd.R_reads' HO219.out).2.1)
                  rintro e w30 ⟨v235, rfl, ho0, hb⟩
                  refine ⟨_, rfl, ?_⟩
                  have HO236 := Aside0.mk (Kd.R_lower (Kd.R_new' (Kd.R_new' (Kd.R_new' ho0 (Kd.R_lt (kq HO222))) (Kd.R_lt (kq HO232))) (Kd.R_lt (kq HO229))) (below_size (hq HB)))
                  replace HO219 := kb HO219 hb
                  replace HO222 := Aside0.mk (Kd.R_elder' (kq HO222) (Kd.R_base ho0) hb)
                  replace HO232 := Aside0.mk (Kd.R_elder' (kq HO232) (Kd.R_base ho0) hb)
                  replace HO229 := Aside0.mk (Kd.R_elder' (kq HO229) (Kd.R_base ho0) hb)
                  replace BK226 := bb BK226 hb
                  replace HB := bs HB hb
                  (try clear hb)
                  (try clear hb2)
                  (try clear hk)
                  (try clear hi)
                  (try clear ho0)
                  refine hK.out _ _ ⟨(blk_cell BK226.out 0).trans rfl, (blk_cell BK226.out 1).trans rfl⟩ (fun hHeld => ?_)
                  clear hK K
                  refine norm_ (a' := ?_) ?_ ?_
                  rotate_left
                  · show Act.put _ (some 21) _ = _
                    simp only [Act.put, List.setIfInBounds_toArray, List.set_cons_zero, List.set_cons_succ, i64_w, i32_w]
                    rfl
                  refine one_ (i := 10) (N := some 23) #[true, true, true, true, true, true, true, true, true, true, true, false, false, false, false, false, false, false, false, false, false, false, false, false, false, false, false, false, false, false, false, false, false, false] rfl rfl (one_of HT_.out (by kernel_rfl)) (by decide) (fun K hK => ?_)
                  refine Kd.R_lit_step k43 _ 43 ?hg (N := 23) ?hd (xs := ([(⟨1000, 20000⟩ : S43)] : List (S43))) (inner := [.int .i64 1000, .int .i64 20000]) (ok := fun _ => True) (okp := fun _ => True) ?hr ?hp (fun _ hk => hk) trivial (Below.refl _ _) (Nat.le_refl _) (by simp) ?_; (case hd => rfl); (case hg => rfl); (case hr => first | (go_simp; done) | (go_simp; rfl)); (case hp => exact (Reps.c2 (show Kd.M k43 _ _ _ (⟨1000, 20000⟩ : S43) [.int .i64 1000, .int .i64 20000] from (k43_mkM _ _ _ (⟨1000, 20000⟩ : S43) )) (Reps.none _ _)))
                  intro v238 w31 ho32 hb hg_ hnew_
                  clear hg_ hnew_
                  (first | rw [← Ny237.out] at ho32 | (simp only [Int.reduceToNat] at ho32; rw [← Ny237.out] at ho32))
                  have HO239 := Aside0.mk (Kd.R_lower (Kd.R_new' (Kd.R_new' (Kd.R_new' (Kd.R_new' ho32 (Kd.R_lt (kq HO222))) (Kd.R_lt (kq HO232))) (Kd.R_lt (kq HO229))) (Kd.R_lt (kq HO236))) (below_size (hq HB)))
                  replace HO219 := kb HO219 hb
                  replace HO222 := Aside0.mk (Kd.R_elder' (kq HO222) (Kd.R_base ho32) hb)
                  replace HO232 := Aside0.mk (Kd.R_elder' (kq HO232) (Kd.R_base ho32) hb)
                  replace HO229 := Aside0.mk (Kd.R_elder' (kq HO229) (Kd.R_base ho32) hb)
                  replace HO236 := Aside0.mk (Kd.R_elder' (kq HO236) (Kd.R_base ho32) hb)
                  replace BK226 := bb BK226 hb
                  replace HB := bs HB hb
                  clear hb ho32
                  refine hK.out _ _ ⟨(blk_cell BK226.out 0).trans rfl, (blk_cell BK226.out 1).trans rfl⟩ (fun hHeld => ?_)
                  clear hK K
                  refine norm_ (a' := ?_) ?_ ?_
                  rotate_left
                  · show Act.put _ (some 23) _ = _
                    simp only [Act.put, List.setIfInBounds_toArray, List.set_cons_zero, List.set_cons_succ, i64_w, i32_w]
                    rfl
                  exact norm_ (by simp only [putAll, Act.put, List.setIfInBounds_toArray, List.set_cons_zero, List.set_cons_succ]) (hCont (.slice Ao28 t227.length co28, .slice Ao29 y230.length co29, v235, v238) _ ⟨hHeld, (kq HO219), (by (with_reducible repeat (first | apply Kd.R_alloc | apply Kd.R_drewN | apply Kd.R_drew)); exact Kd.R_mono HO222.out (fun _ hk => ⟨hk.1.1.2, ⟨hk.1.1.1.2, ⟨hk.1.2, hk.2⟩⟩⟩)), (by (with_reducible repeat (first | apply Kd.R_alloc | apply Kd.R_drewN | apply Kd.R_drew)); exact Kd.R_mono HO229.out (fun _ hk => ⟨hk.1.1.1.2, ⟨hk.1.1.2, ⟨hk.1.2, hk.2⟩⟩⟩)), (by (with_reducible repeat (first | apply Kd.R_alloc | apply Kd.R_drewN | apply Kd.R_drew)); exact Kd.R_mono HO232.out (fun _ hk => ⟨hk.1.1.1.2, ⟨hk.1.1.2, ⟨hk.1.2, hk.2⟩⟩⟩)), (by (with_reducible repeat (first | apply Kd.R_alloc | apply Kd.R_drewN | apply Kd.R_drew)); exact Kd.R_mono HO236.out (fun _ hk => ⟨hk.1.1.1.2, ⟨hk.1.2, ⟨hk.1.1.2, hk.2⟩⟩⟩)), (by (with_reducible repeat (first | apply Kd.R_alloc | apply Kd.R_drewN | apply Kd.R_drew)); exact Kd.R_mono HO239.out (fun _ hk => ⟨hk.1.1.1.2, ⟨hk.1.2, ⟨hk.1.1.2, hk.2⟩⟩⟩)), (bq BK226), (hq HB)⟩)
                · skip
                  refine Kd.R_lit_step k43 _ 43 ?hg (N := 23) ?hd (xs := ([(⟨1000, 20000⟩ : S43)] : List (S43))) (inner := [.int .i64 1000, .int .i64 20000]) (ok := fun _ => True) (okp := fun _ => True) ?hr ?hp (fun _ hk => hk) trivial (Below.refl _ _) (Nat.le_refl _) (by simp) ?_; (case hd => rfl); (case hg => rfl); (case hr => first | (go_simp; done) | (go_simp; rfl)); (case hp => exact (Reps.c2 (show Kd.M k43 _ _ _ (⟨1000, 20000⟩ : S43) [.int .i64 1000, .int .i64 20000] from (k43_mkM _ _ _ (⟨1000, 20000⟩ : S43) )) (Reps.none _ _)))
                  intro v238 w30 ho31 hb hg_ hnew_
                  clear hg_ hnew_
                  (first | rw [← Ny237.out] at ho31 | (simp only [Int.reduceToNat] at ho31; rw [← Ny237.out] at ho31))
                  have HO239 := Aside0.mk (Kd.R_lower (Kd.R_new' (Kd.R_new' (Kd.R_new' ho31 (Kd.R_lt (kq HO222))) (Kd.R_lt (kq HO232))) (Kd.R_lt (kq HO229))) (below_size (hq HB)))
                  replace HO219 := kb HO219 hb
                  replace HO222 := Aside0.mk (Kd.R_elder' (kq HO222) (Kd.R_base ho31) hb)
                  replace HO232 := Aside0.mk (Kd.R_elder' (kq HO232) (Kd.R_base ho31) hb)
                  replace HO229 := Aside0.mk (Kd.R_elder' (kq HO229) (Kd.R_base ho31) hb)
                  replace BK226 := bb BK226 hb
                  replace HB := bs HB hb
                  clear hb ho31
                  refine hK.out _ _ ⟨(blk_cell BK226.out 0).trans rfl, (blk_cell BK226.out 1).trans rfl⟩ (fun hHeld => ?_)
                  clear hK K
                  refine norm_ (a' := ?_) ?_ ?_
                  rotate_left
                  · show Act.put _ (some 23) _ = _
                    simp only [Act.put, List.setIfInBounds_toArray, List.set_cons_zero, List.set_cons_succ, i64_w, i32_w]
                    rfl
                  refine one_ (i := 8) (N := some 21) #[true, true, true, true, true, true, true, true, true, true, true, false, false, false, false, false, false, false, false, false, false, false, false, false, false, false, false, false, false, false, false, false, false, false] rfl rfl (one_of HT_.out (by kernel_rfl)) (by decide) (fun K hK => ?_)
                  refine goes_ Try.func22 (by kernel_rfl) rfl #[.slice Ao22 y217.length co22, .bool false, .int .i64 1000] (by rfl) rfl rfl zm ?_
                  with_reducible refine (tier_Slices.calls k _ _ y217 false 1000 t234 _ ?side1 ?side2 A5.out).mono ?_
                  (case side1 => repeat (first | exact (Kd.R_reads' HO219.out).2.2 | (with_reducible refine Kd.C_alloc ?_ _) | (with_reducible refine Kd.C_drewN ?_ _) | (with_reducible refine Kd.C_drew ?_)))
                  (case side2 => exact (Kd.R_reads' HO219.out).2.1)
                  rintro e w32 ⟨v235, rfl, ho0, hb⟩
                  refine ⟨_, rfl, ?_⟩
                  have HO236 := Aside0.mk (Kd.R_lower (Kd.R_new' (Kd.R_new' (Kd.R_new' (Kd.R_new' ho0 (Kd.R_lt (kq HO222))) (Kd.R_lt (kq HO232))) (Kd.R_lt (kq HO229))) (Kd.R_lt (kq HO239))) (below_size (hq HB)))
                  replace HO219 := kb HO219 hb
                  replace HO222 := Aside0.mk (Kd.R_elder' (kq HO222) (Kd.R_base ho0) hb)
                  replace HO232 := Aside0.mk (Kd.R_elder' (kq HO232) (Kd.R_base ho0) hb)
                  replace HO229 := Aside0.mk (Kd.R_elder' (kq HO229) (Kd.R_base ho0) hb)
                  replace HO239 := Aside0.mk (Kd.R_elder' (kq HO239) (Kd.R_base ho0) hb)
                  replace BK226 := bb BK226 hb
                  replace HB := bs HB hb
                  (try clear hb)
                  (try clear hb2)
                  (try clear hk)
                  (try clear hi)
                  (try clear ho0)
                  refine hK.out _ _ ⟨(blk_cell BK226.out 0).trans rfl, (blk_cell BK226.out 1).trans rfl⟩ (fun hHeld => ?_)
                  clear hK K
                  refine norm_ (a' := ?_) ?_ ?_
                  rotate_left
                  · show Act.put _ (some 21) _ = _
                    simp only [Act.put, List.setIfInBounds_toArray, List.set_cons_zero, List.set_cons_succ, i64_w, i32_w]
                    rfl
                  exact norm_ (by simp only [putAll, Act.put, List.setIfInBounds_toArray, List.set_cons_zero, List.set_cons_succ]) (hCont (.slice Ao28 t227.length co28, .slice Ao29 y230.length co29, v235, v238) _ ⟨hHeld, (kq HO219), (by (with_reducible repeat (first | apply Kd.R_alloc | apply Kd.R_drewN | apply Kd.R_drew)); exact Kd.R_mono HO222.out (fun _ hk => ⟨hk.1.1.2, ⟨hk.1.1.1.2, ⟨hk.2, hk.1.2⟩⟩⟩)), (by (with_reducible repeat (first | apply Kd.R_alloc | apply Kd.R_drewN | apply Kd.R_drew)); exact Kd.R_mono HO229.out (fun _ hk => ⟨hk.1.1.1.2, ⟨hk.1.1.2, ⟨hk.2, hk.1.2⟩⟩⟩)), (by (with_reducible repeat (first | apply Kd.R_alloc | apply Kd.R_drewN | apply Kd.R_drew)); exact Kd.R_mono HO232.out (fun _ hk => ⟨hk.1.1.1.2, ⟨hk.1.1.2, ⟨hk.2, hk.1.2⟩⟩⟩)), (by (with_reducible repeat (first | apply Kd.R_alloc | apply Kd.R_drewN | apply Kd.R_drew)); exact Kd.R_mono HO236.out (fun _ hk => ⟨hk.1.1.1.2, ⟨hk.1.2, ⟨hk.1.1.2, hk.2⟩⟩⟩)), (by (with_reducible repeat (first | apply Kd.R_alloc | apply Kd.R_drewN | apply Kd.R_drew)); exact Kd.R_mono HO239.out (fun _ hk => ⟨hk.1.1.1.2, ⟨hk.1.2, ⟨hk.1.1.2, hk.2⟩⟩⟩)), (bq BK226), (hq HB)⟩)
            rintro ⟨v228, v231, v235, v238⟩ w33 ⟨hS_, h0_, h1_, h2_, h3_, h4_, h5_, h6_, h7_⟩
            have HO229 : Aside0 (Kd.R k43 43 w33 w.heap.size (fun k_ => some k_ ≠ (.slice Ao18 y220.length co18 : Value).ownBlock ∧ some k_ ≠ (v231 : Value).ownBlock ∧ some k_ ≠ (v235 : Value).ownBlock ∧ some k_ ≠ (v238 : Value).ownBlock) v228 t227) := ⟨h2_⟩
            have HO232 : Aside0 (Kd.R k43 43 w33 w.heap.size (fun k_ => some k_ ≠ (.slice Ao18 y220.length co18 : Value).ownBlock ∧ some k_ ≠ (v228 : Value).ownBlock ∧ some k_ ≠ (v235 : Value).ownBlock ∧ some k_ ≠ (v238 : Value).ownBlock) v231 y230) := ⟨h3_⟩
            have HO236 : Aside0 (Kd.R k43 43 w33 w.heap.size (fun k_ => some k_ ≠ (.slice Ao18 y220.length co18 : Value).ownBlock ∧ some k_ ≠ (v228 : Value).ownBlock ∧ some k_ ≠ (v231 : Value).ownBlock ∧ some k_ ≠ (v238 : Value).ownBlock) v235 t234) := ⟨h4_⟩
            have HO239 : Aside0 (Kd.R k43 43 w33 w.heap.size (fun k_ => some k_ ≠ (.slice Ao18 y220.length co18 : Value).ownBlock ∧ some k_ ≠ (v228 : Value).ownBlock ∧ some k_ ≠ (v231 : Value).ownBlock ∧ some k_ ≠ (v235 : Value).ownBlock) v238 y237) := ⟨h5_⟩
            replace HO219 : Aside0 (Kd.R k50 50 w33 w.heap.size (fun _ => True) (.slice Ao22 y217.length co22) y217) := ⟨h0_⟩
            replace HO222 : Aside0 (Kd.R k43 43 w33 w.heap.size (fun k_ => some k_ ≠ (v228 : Value).ownBlock ∧ some k_ ≠ (v231 : Value).ownBlock ∧ some k_ ≠ (v235 : Value).ownBlock ∧ some k_ ≠ (v238 : Value).ownBlock) (.slice Ao18 y220.length co18) y220) := ⟨h1_⟩
            replace BK226 : Aside0 (w33.heap[gb226]? = some (.cells #[.int .i64 t223, .int .u64 t224] 35 (0, 0))) := ⟨h6_⟩
            replace HB : Aside0 (Below w.heap.size w w33) := ⟨h7_⟩
            clear h0_ h1_ h2_ h3_ h4_ h5_ h6_ h7_
            have hHeld : w33.cell? ⟨gb226, 0, none⟩ = some (.int .i64 t223) ∧ w33.cell? ⟨gb226, 1, none⟩ = some (.int .u64 t224) := hS_
            obtain ⟨Ao34, co34, eo34⟩ := Kd.R_slice HO236.out
            (first | subst eo34 | (injection eo34 with f1_ f2_ f3_; have f4_ := f1_.symm; have f5_ := f3_.symm; clear f1_ f2_ f3_; subst f4_; subst f5_))
            obtain ⟨Ao35, co35, eo35⟩ := Kd.R_slice HO239.out
            (first | subst eo35 | (injection eo35 with f1_ f2_ f3_; have f4_ := f1_.symm; have f5_ := f3_.symm; clear f1_ f2_ f3_; subst f4_; subst f5_))
            refine norm_ (a' := ?_) ?_ ?_
            rotate_left
            · simp only [putAll, Act.put, List.setIfInBounds_toArray, List.set_cons_zero, List.set_cons_succ]
              rfl
            refine one_ (i := 11) (N := some 24) #[true, true, true, true, true, true, true, true, true, true, true, true, false, false, false, false, false, false, false, false, false, false, false, false, false, false, false, false, false, false, false, false, false, false] rfl rfl (one_of HT_.out (by kernel_rfl)) (by decide) (fun K hK => ?_)
            refine goes_ Try.func21 (by kernel_rfl) rfl #[.slice Ao34 t234.length co34, .slice Ao35 y237.length co35] (by rfl) rfl rfl zm ?_
            with_reducible refine (corebankref14_Same.calls k _ _ t234 _ _ y237 true _ ?side1 ?side2 ?side3 ?side4 A6.out).mono ?_
            (case side1 => repeat (first | exact (Kd.R_reads' HO236.out).2.2 | (with_reducible refine Kd.C_alloc ?_ _) | (with_reducible refine Kd.C_drewN ?_ _) | (with_reducible refine Kd.C_drew ?_)))
            (case side2 => exact (Kd.R_reads' HO236.out).2.1)
            (case side3 => repeat (first | exact (Kd.R_reads' HO239.out).2.2 | (with_reducible refine Kd.C_alloc ?_ _) | (with_reducible refine Kd.C_drewN ?_ _) | (with_reducible refine Kd.C_drew ?_)))
            (case side4 => exact (Kd.R_reads' HO239.out).2.1)
            rintro e w' ⟨rfl, ⟨nd, rfl⟩⟩
            refine ⟨_, rfl, ?_⟩
            refine hK.out _ _ ⟨(blk_cell BK226.out 0).trans rfl, (blk_cell BK226.out 1).trans rfl⟩ (fun hHeld => ?_)
            clear hK K
            refine norm_ (a' := ?_) ?_ ?_
            rotate_left
            · show Act.put _ (some 24) _ = _
              simp only [Act.put, List.setIfInBounds_toArray, List.set_cons_zero, List.set_cons_succ, i64_w, i32_w]
              rfl
            refine pz (i := 12) (N := some 25) #[true, true, true, true, true, true, true, true, true, true, true, true, true, false, false, false, false, false, false, false, false, false, false, false, false, false, false, false, false, false, false, false, false, false] rfl rfl (any_of HT_.out (by kernel_rfl)) (fun _ _ _ h => h) ?_
            refine pz (i := 13) (N := some 26) #[true, true, true, true, true, true, true, true, true, true, true, true, true, true, false, false, false, false, false, false, false, false, false, false, false, false, false, false, false, false, false, false, false, false] rfl rfl (any_of HT_.out (by kernel_rfl)) (fun _ _ _ h => h) ?_
            refine pz (i := 14) (N := some 27) #[true, true, true, true, true, true, true, true, true, true, true, true, true, true, true, false, false, false, false, false, false, false, false, false, false, false, false, false, false, false, false, false, false, false] rfl rfl (any_of HT_.out (by kernel_rfl)) (fun _ _ _ h => h) ?_
            refine one_ (i := 15) (N := some 28) #[true, true, true, true, true, true, true, true, true, true, true, true, true, true, true, true, false, false, false, false, false, false, false, false, false, false, false, false, false, false, false, false, false, false] rfl rfl (one_of HT_.out (by kernel_rfl)) (by decide) (fun K hK => ?_)
            refine goes_ Try.func19 (by kernel_rfl) rfl #[.slice Ao22 y217.length co22, .int .i64 999] (by rfl) rfl rfl zm ?_
            with_reducible refine (tier_Rate.calls k _ _ y217 999 t241 _ ?side1 ?side2 A8.out).mono ?_
            (case side1 => repeat (first | exact (Kd.R_reads' HO219.out).2.2 | (with_reducible refine Kd.C_alloc ?_ _) | (with_reducible refine Kd.C_drewN ?_ _) | (with_reducible refine Kd.C_drew ?_)))
            (case side2 => exact (Kd.R_reads' HO219.out).2.1)
            rintro e w36 ⟨rfl, hb⟩
            refine ⟨_, rfl, ?_⟩
            replace HO219 := kb HO219 hb
            replace HO222 := kb HO222 hb
            replace HO229 := kb HO229 hb
            replace HO232 := kb HO232 hb
            replace HO236 := kb HO236 hb
            replace HO239 := kb HO239 hb
            replace BK226 := bb BK226 hb
            replace HB := bs HB hb
            (try clear hb)
            (try clear hb2)
            (try clear hk)
            (try clear hi)
            refine hK.out _ _ ⟨(blk_cell BK226.out 0).trans rfl, (blk_cell BK226.out 1).trans rfl⟩ (fun hHeld => ?_)
            clear hK K
            refine norm_ (a' := ?_) ?_ ?_
            rotate_left
            · show Act.put _ (some 28) _ = _
              simp only [Act.put, List.setIfInBounds_toArray, List.set_cons_zero, List.set_cons_succ, i64_w, i32_w]
              rfl
            refine pz (i := 16) (N := some 29) #[true, true, true, true, true, true, true, true, true, true, true, true, true, true, true, true, true, false, false, false, false, false, false, false, false, false, false, false, false, false, false, false, false, false] rfl rfl (any_of HT_.out (by kernel_rfl)) (fun _ _ _ h => h) ?_
            refine pz (i := 17) (N := some 30) #[true, true, true, true, true, true, true, true, true, true, true, true, true, true, true, true, true, true, false, false, false, false, false, false, false, false, false, false, false, false, false, false, false, false] rfl rfl (any_of HT_.out (by kernel_rfl)) (fun _ _ _ h => h) ?_
            refine pz (i := 18) (N := some 31) #[true, true, true, true, true, true, true, true, true, true, true, true, true, true, true, true, true, true, true, false, false, false, false, false, false, false, false, false, false, false, false, false, false, false] rfl rfl (any_of HT_.out (by kernel_rfl)) (fun _ _ _ h => h) ?_
            refine tz2 (i := 19) (N := some 32) #[true, true, true, true, true, true, true, true, true, true, true, true, true, true, true, true, true, true, true, true, false, false, false, false, false, false, false, false, false, false, false, false, false, false] rfl rfl (take_ofW HT_.out HW_.out (by kernel_rfl)) (fun _ _ _ h => h) hHeld ?_
            refine one_ (i := 20) (N := some 33) #[true, true, true, true, true, true, true, true, true, true, true, true, true, true, true, true, true, true, true, true, true, false, false, false, false, false, false, false, false, false, false, false, false, false] rfl rfl (one_of HT_.out (by kernel_rfl)) (by decide) (fun K hK => ?_)
            refine goes_ Try.func41 (by kernel_rfl) rfl #[.int .i64 6588000000000] (by rfl) rfl rfl zm ?_
            with_reducible refine (corebankref01_Of.calls 6588000000000 t242 t243 _ A10.out).mono ?_
            rintro e w37 ⟨rfl, hb⟩
            refine ⟨_, rfl, ?_⟩
            replace HO219 := kb HO219 hb
            replace HO222 := kb HO222 hb
            replace HO229 := kb HO229 hb
            replace HO232 := kb HO232 hb
            replace HO236 := kb HO236 hb
            replace HO239 := kb HO239 hb
            replace BK226 := bb BK226 hb
            replace HB := bs HB hb
            (try clear hb)
            (try clear hb2)
            (try clear hk)
            (try clear hi)
            refine hK.out _ _ ⟨(blk_cell BK226.out 0).trans rfl, (blk_cell BK226.out 1).trans rfl⟩ (fun hHeld => ?_)
            clear hK K
            refine norm_ (a' := ?_) ?_ ?_
            rotate_left
            · show Act.put _ (some 33) _ = _
              simp only [Act.put, List.setIfInBounds_toArray, List.set_cons_zero, List.set_cons_succ, i64_w, i32_w]
              rfl
            refine pz (i := 21) (N := some 34) #[true, true, true, true, true, true, true, true, true, true, true, true, true, true, true, true, true, true, true, true, true, true, false, false, false, false, false, false, false, false, false, false, false, false] rfl rfl (any_of HT_.out (by kernel_rfl)) (fun _ _ _ h => h) ?_
            refine pz (i := 22) (N := some 35) #[true, true, true, true, true, true, true, true, true, true, true, true, true, true, true, true, true, true, true, true, true, true, true, false, false, false, false, false, false, false, false, false, false, false] rfl rfl (any_of HT_.out (by kernel_rfl)) (fun _ _ _ h => h) ?_
            refine pz (i := 23) (N := some 36) #[true, true, true, true, true, true, true, true, true, true, true, true, true, true, true, true, true, true, true, true, true, true, true, true, false, false, false, false, false, false, false, false, false, false] rfl rfl (any_of HT_.out (by kernel_rfl)) (fun _ _ _ h => h) ?_
            refine pz (i := 24) (N := some 37) #[true, true, true, true, true, true, true, true, true, true, true, true, true, true, true, true, true, true, true, true, true, true, true, true, true, false, false, false, false, false, false, false, false, false] rfl rfl (any_of HT_.out (by kernel_rfl)) (fun _ _ _ h => h) ?_
            refine pz (i := 25) (N := some 38) #[true, true, true, true, true, true, true, true, true, true, true, true, true, true, true, true, true, true, true, true, true, true, true, true, true, true, false, false, false, false, false, false, false, false] rfl rfl (any_of HT_.out (by kernel_rfl)) (fun _ _ _ h => h) ?_
            refine pz (i := 26) (N := some 39) #[true, true, true, true, true, true, true, true, true, true, true, true, true, true, true, true, true, true, true, true, true, true, true, true, true, true, true, false, false, false, false, false, false, false] rfl rfl (any_of HT_.out (by kernel_rfl)) (fun _ _ _ h => h) ?_
            refine pz (i := 27) (N := some 40) #[true, true, true, true, true, true, true, true, true, true, true, true, true, true, true, true, true, true, true, true, true, true, true, true, true, true, true, true, false, false, false, false, false, false] rfl rfl (any_of HT_.out (by kernel_rfl)) (fun _ _ _ h => h) ?_
            refine pz (i := 28) (N := some 41) #[true, true, true, true, true, true, true, true, true, true, true, true, true, true, true, true, true, true, true, true, true, true, true, true, true, true, true, true, true, false, false, false, false, false] rfl rfl (any_of HT_.out (by kernel_rfl)) (fun _ _ _ h => h) ?_
            refine one_ (i := 29) (N := some 42) #[true, true, true, true, true, true, true, true, true, true, true, true, true, true, true, true, true, true, true, true, true, true, true, true, true, true, true, true, true, true, false, false, false, false] rfl rfl (one_of HT_.out (by kernel_rfl)) (by decide) (fun K hK => ?_)
            refine Kd.R_lit_step k50 _ 50 ?hg (N := 42) ?hd (xs := ([(⟨1, 1⟩ : S50)] : List (S50))) (inner := [.int .i64 1, .int .i64 1]) (ok := fun _ => True) (okp := fun _ => True) ?hr ?hp (fun _ hk => hk) trivial (Below.refl _ _) (Nat.le_refl _) (by simp) ?_; (case hd => rfl); (case hg => rfl); (case hr => first | (go_simp; done) | (go_simp; rfl)); (case hp => exact (Reps.c2 (show Kd.M k50 _ _ _ (⟨1, 1⟩ : S50) [.int .i64 1, .int .i64 1] from (k50_mkM _ _ _ (⟨1, 1⟩ : S50) )) (Reps.none _ _)))
            intro v245 w38 ho39 hb hg_ hnew_
            clear hg_ hnew_
            (first | rw [← Ny244.out] at ho39 | (simp only [Int.reduceToNat] at ho39; rw [← Ny244.out] at ho39))
            have HO246 := Aside0.mk (Kd.R_lower (Kd.R_new' ho39 (Kd.R_lt (kq HO219))) (below_size (hq HB)))
            replace HO219 := Aside0.mk (Kd.R_elder' (kq HO219) (Kd.R_base ho39) hb)
            replace HO222 := kb HO222 hb
            replace HO229 := kb HO229 hb
            replace HO232 := kb HO232 hb
            replace HO236 := kb HO236 hb
            replace HO239 := kb HO239 hb
            replace BK226 := bb BK226 hb
            replace HB := bs HB hb
            clear hb ho39
            obtain ⟨Ao40, co40, eo40⟩ := Kd.R_slice HO246.out
            (first | subst eo40 | (injection eo40 with f1_ f2_ f3_; have f4_ := f1_.symm; have f5_ := f3_.symm; clear f1_ f2_ f3_; subst f4_; subst f5_))
            refine hK.out _ _ ⟨(blk_cell BK226.out 0).trans rfl, (blk_cell BK226.out 1).trans rfl⟩ (fun hHeld => ?_)
            clear hK K
            refine norm_ (a' := ?_) ?_ ?_
            rotate_left
            · show Act.put _ (some 42) _ = _
              simp only [Act.put, List.setIfInBounds_toArray, List.set_cons_zero, List.set_cons_succ, i64_w, i32_w]
              rfl
            refine one_ (i := 30) (N := some 43) #[true, true, true, true, true, true, true, true, true, true, true, true, true, true, true, true, true, true, true, true, true, true, true, true, true, true, true, true, true, true, true, false, false, false] rfl rfl (one_of HT_.out (by kernel_rfl)) (by decide) (fun K hK => ?_)
            refine goes_ Try.func16 (by kernel_rfl) rfl #[.slice Ao40 y244.length co40] (by rfl) rfl rfl zm ?_
            with_reducible refine (tier_Check.calls _ _ y244 t247 _ ?side1 ?side2 A13.out).mono ?_
            (case side1 => repeat (first | exact (Kd.R_reads' HO246.out).2.2 | (with_reducible refine Kd.C_alloc ?_ _) | (with_reducible refine Kd.C_drewN ?_ _) | (with_reducible refine Kd.C_drew ?_)))
            (case side2 => exact (Kd.R_reads' HO246.out).2.1)
            rintro e w41 ⟨rfl, hb⟩
            refine ⟨_, rfl, ?_⟩
            replace HO219 := kb HO219 hb
            replace HO222 := kb HO222 hb
            replace HO229 := kb HO229 hb
            replace HO232 := kb HO232 hb
            replace HO236 := kb HO236 hb
            replace HO239 := kb HO239 hb
            replace HO246 := kb HO246 hb
            replace BK226 := bb BK226 hb
            replace HB := bs HB hb
            (try clear hb)
            (try clear hb2)
            (try clear hk)
            (try clear hi)
            refine hK.out _ _ ⟨(blk_cell BK226.out 0).trans rfl, (blk_cell BK226.out 1).trans rfl⟩ (fun hHeld => ?_)
            clear hK K
            refine norm_ (a' := ?_) ?_ ?_
            rotate_left
            · show Act.put _ (some 43) _ = _
              simp only [Act.put, List.setIfInBounds_toArray, List.set_cons_zero, List.set_cons_succ, i64_w, i32_w]
              rfl
            refine pz (i := 31) (N := some 44) #[true, true, true, true, true, true, true, true, true, true, true, true, true, true, true, true, true, true, true, true, true, true, true, true, true, true, true, true, true, true, true, true, false, false] rfl rfl (any_of HT_.out (by kernel_rfl)) (fun _ _ _ h => h) ?_
            refine pz (i := 32) (N := some 45) #[true, true, true, true, true, true, true, true, true, true, true, true, true, true, true, true, true, true, true, true, true, true, true, true, true, true, true, true, true, true, true, true, true, false] rfl rfl (any_of HT_.out (by kernel_rfl)) (fun _ _ _ h => h) ?_
            refine pz (i := 33) (N := some 0) #[true, true, true, true, true, true, true, true, true, true, true, true, true, true, true, true, true, true, true, true, true, true, true, true, true, true, true, true, true, true, true, true, true, true] rfl rfl (any_of HT_.out (by kernel_rfl)) (fun _ _ _ h => h) ?_
            refine done_ (done_of HT_.out (by kernel_rfl)) ?_
            try go_wp2
            go_ret
            exact ⟨by first | rfl | (simp [errW_none, errW_some] <;> rfl) | (simp [*, errW_none, errW_some] <;> rfl), hq HB⟩
          · rw [if_neg c12] at H
            have c12b0 : (t225 == 0) = false := beq_eq_false_iff_ne.mpr c12
            have c12b1 : (t225 != 0) = true := bne_iff_ne.mpr c12
            exact absurd ((Option.some.inj H).trans HT.out) (by decide)
        · rw [if_neg c11] at H
          have c11b0 : (t223 == t242 && (t224 == t243)) = false := by simpa using c11
          (try (have c11b1 : decide (t223 = t242 && (t224 == t243)) = false := by simpa using c11))
          (try (have c11b2 : (t223 == t242 && (t224 == t243)) = false := by simpa using c11))
          (try (have c11b3 : ¬ (t223 = t242 && (t224 == t243)) := by simpa using c11))
          clear c11
          exact absurd ((Option.some.inj H).trans HT.out) (by decide)
      · rw [if_neg c9] at H
        have c9b0 : (t241 == 10000) = false := beq_eq_false_iff_ne.mpr c9
        have c9b1 : (t241 != 10000) = true := bne_iff_ne.mpr c9
        exact absurd ((Option.some.inj H).trans HT.out) (by decide)
    · replace c7 := Bool.eq_false_iff.mpr c7
      subst c7
      have H1 : (some false) = some r := by rw [if_neg (show ¬ (false = true) by decide)] at H; exact H
      clear H
      have H := H1
      clear H1
      exact absurd ((Option.some.inj H).trans HT.out) (by decide)
  · replace c4 := Bool.eq_false_iff.mpr c4
    subst c4
    have H1 : (some false) = some r := by rw [if_neg (show ¬ (false = true) by decide)] at H; exact H
    clear H
    have H := H1
    clear H1
    exact absurd ((Option.some.inj H).trans HT.out) (by decide)

end Go.Proofs.Ytlmabdiodopidaa.P
end
section
set_option linter.unusedVariables false
set_option linter.unusedSimpArgs false
namespace Go.Proofs.Ytlmabdiodopidaa.G
open Go.RowKit Go.Proofs.Ytlmabdiodopidaa.P
def corebanklaw14_live.f : Option Bool := some true
theorem live14_true : corebanklaw14_liveT.f 100 = some true := by decide +kernel
theorem corebanklaw14_live.calls (r : Bool) (w : World) (h : corebanklaw14_live.f = some r) : Calls Try.prog 18 #[] w fun e w' => e = .returned (.bool r) ∧ Below w.heap.size w w' := by
  have e : true = r := Option.some.inj h
  subst e
  exact corebanklaw14_liveT.calls 100 true w rfl live14_true
end Go.Proofs.Ytlmabdiodopidaa.G
end
