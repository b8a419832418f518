/- Texts of this seat, joined: Px7, Px8, Px9, Px27, Px28. Lemmas for the claim's theorem. -/
import Derived.Test.YtlmabdiodopidaaJ9
section
set_option linter.unusedVariables false
set_option linter.unusedSimpArgs false
namespace Go.Proofs.Ytlmabdiodopidaa.P
open Go.Proofs.Ytlmabdiodopidaa.G
attribute [local go_sem high] un_not64 un_noti run_add64
open Go.RowKit Go.Proofs.YtlmabdiodopidaaW.PrintWords Go.Proofs.YtlmabdiodopidaaW.PrintLast Go.Proofs.YtlmabdiodopidaaW.PrintMore
attribute [local go_sem] max2_int min2_int max_two min_two max_three min_three max_four min_four   -- for this text's walks alone
set_option linter.unusedVariables false
set_option linter.unusedSimpArgs false

/-! ### corebankref04_Length: function 93 -/
mutual
def corebankref04_Length.j0 : Nat → Int → Int → Bool → Option (Int)
  | 0, _, _, _ => none
  | k + 1, x0, x5, x6 => if x6 = true then (some 31) else (if x5 = 4 then (corebankref04_Length.j1 k x0 x5 (x5 == 4)) else (if x5 = 6 then (corebankref04_Length.j1 k x0 x5 (x5 == 6)) else (if x5 = 9 then (corebankref04_Length.j1 k x0 x5 (x5 == 9)) else (corebankref04_Length.j1 k x0 x5 (x5 == 11)))))
def corebankref04_Length.j1 : Nat → Int → Int → Bool → Option (Int)
  | 0, _, _, _ => none
  | k + 1, x0, x5, x14 => if x14 = true then (some 30) else (if x5 = 2 then ((corebankref04_Leap.f x0).bind fun t121 => (if t121 = true then (some 29) else (some 28))) else (some 0))
end
def corebankref04_Length.f (k : Nat) (a0 : Int) (a1 : Int) : Option (Int) := if a1 = 1 then (corebankref04_Length.j0 k a0 a1 (a1 == 1)) else (if a1 = 3 then (corebankref04_Length.j0 k a0 a1 (a1 == 3)) else (if a1 = 5 then (corebankref04_Length.j0 k a0 a1 (a1 == 5)) else (if a1 = 7 then (corebankref04_Length.j0 k a0 a1 (a1 == 7)) else (if a1 = 8 then (corebankref04_Length.j0 k a0 a1 (a1 == 8)) else (if a1 = 10 then (corebankref04_Length.j0 k a0 a1 (a1 == 10)) else (corebankref04_Length.j0 k a0 a1 (a1 == 12)))))))
theorem corebankref04_Length.mono_l : ∀ k, (∀ y0 y1 y2, LeO (corebankref04_Length.j0 k y0 y1 y2) (corebankref04_Length.j0 (k + 1) y0 y1 y2)) ∧ (∀ y0 y1 y2, LeO (corebankref04_Length.j1 k y0 y1 y2) (corebankref04_Length.j1 (k + 1) y0 y1 y2))
  | 0 => ⟨fun _ _ _ r h => by simp [corebankref04_Length.j0] at h, fun _ _ _ r h => by simp [corebankref04_Length.j1] at h⟩
  | k + 1 => by
    obtain ⟨ih0, ih1⟩ := corebankref04_Length.mono_l k
    refine ⟨?_, ?_⟩
    · intro y0 y1 y2
      unfold corebankref04_Length.j0
      repeat' first
      | (with_reducible exact ih0 _ _ _)
      | (with_reducible exact ih1 _ _ _)
      | (with_reducible exact LeO.refl _)
      | (with_reducible exact LeO.none _)
      | (with_reducible refine LeO.ite ?_ ?_)
      | (with_reducible refine LeO.bind ?_ (fun _ => ?_))
      | exact ih0 _ _ _
      | exact ih1 _ _ _
      | exact LeO.none _
      | refine LeO.ite ?_ ?_
      | refine LeO.bind ?_ (fun _ => ?_)
    · intro y0 y1 y2
      unfold corebankref04_Length.j1
      repeat' first
      | (with_reducible exact ih0 _ _ _)
      | (with_reducible exact ih1 _ _ _)
      | (with_reducible exact LeO.refl _)
      | (with_reducible exact LeO.none _)
      | (with_reducible refine LeO.ite ?_ ?_)
      | (with_reducible refine LeO.bind ?_ (fun _ => ?_))
      | exact ih0 _ _ _
      | exact ih1 _ _ _
      | exact LeO.none _
      | refine LeO.ite ?_ ?_
      | refine LeO.bind ?_ (fun _ => ?_)
theorem corebankref04_Length.mono : ∀ a0 a1 k, LeO (corebankref04_Length.f k a0 a1) (corebankref04_Length.f (k + 1) a0 a1) := by
  intro a0 a1 k
  obtain ⟨ih0, ih1⟩ := corebankref04_Length.mono_l k
  unfold corebankref04_Length.f
  repeat' first
      | (with_reducible exact ih0 _ _ _)
      | (with_reducible exact ih1 _ _ _)
      | (with_reducible exact LeO.refl _)
      | (with_reducible exact LeO.none _)
      | (with_reducible refine LeO.ite ?_ ?_)
      | (with_reducible refine LeO.bind ?_ (fun _ => ?_))
      | exact ih0 _ _ _
      | exact ih1 _ _ _
      | exact LeO.none _
      | refine LeO.ite ?_ ?_
      | refine LeO.bind ?_ (fun _ => ?_)
set_option maxHeartbeats 8000000 in
set_option maxRecDepth 100000 in
theorem corebankref04_Length.calls (k : Nat) (a0 : Int) (a1 : Int) (r : Int) (w : World) (h : corebankref04_Length.f k a0 a1 = some r) :
    Calls Try.prog 93 #[.int .i64 a0, .int .i64 a1] w fun e w' => e = .returned (.int .i64 r) ∧ Drawn0 w w' := by
  have H : (if a1 = 1 then (corebankref04_Length.j0 k a0 a1 (a1 == 1)) else (if a1 = 3 then (corebankref04_Length.j0 k a0 a1 (a1 == 3)) else (if a1 = 5 then (corebankref04_Length.j0 k a0 a1 (a1 == 5)) else (if a1 = 7 then (corebankref04_Length.j0 k a0 a1 (a1 == 7)) else (if a1 = 8 then (corebankref04_Length.j0 k a0 a1 (a1 == 8)) else (if a1 = 10 then (corebankref04_Length.j0 k a0 a1 (a1 == 10)) else (corebankref04_Length.j0 k a0 a1 (a1 == 12)))))))) = some r := h
  clear h
  have HC3 := Aside0.mk H
  clear H
  go_enter Try.func93, Try.ntmps93
  go_upto_if 6 with (fail)
  go_cut [6] (fun v6 wc => ∃ (kq : Nat) (x6_2 : Bool), v6 = .bool x6_2 ∧ Aside0 (corebankref04_Length.j0 kq a0 a1 x6_2 = some r) ∧ Aside0 (kq ≤ k) ∧ Drawn0 w wc)
  case first =>
    have H := HC3.out
    clear HC3
    by_cases c4 : a1 = 1
    · rw [if_pos c4] at H
      have c4b0 : (a1 == 1) = true := beq_iff_eq.mpr c4
      have c4b1 : (a1 != 1) = false := bne_eq_false_iff_eq.mpr c4
      clear c4
      (first | rw [c4b0] | (simp only [i64_w, i32_w]; rw [c4b0]) | skip)
      have H' := Aside0.mk H
      clear H
      go_wp2
      go_meet
      case rel => exact ⟨_, ((a1 == 1)), (by first | rfl | (simp; done) | (simp [*]; done)), H', ⟨by first | omega | exact Nat.le_refl _⟩, by repeat (first | exact Drawn0.refl _ | apply Drawn0.step)⟩
    · rw [if_neg c4] at H
      have c4b0 : (a1 == 1) = false := beq_eq_false_iff_ne.mpr c4
      have c4b1 : (a1 != 1) = true := bne_iff_ne.mpr c4
      (first | rw [c4b0] | (simp only [i64_w, i32_w]; rw [c4b0]) | skip)
      by_cases c5 : a1 = 3
      · rw [if_pos c5] at H
        have c5b0 : (a1 == 3) = true := beq_iff_eq.mpr c5
        have c5b1 : (a1 != 3) = false := bne_eq_false_iff_eq.mpr c5
        clear c5
        have H' := Aside0.mk H
        clear H
        go_wp2
        go_meet
        case rel => exact ⟨_, ((a1 == 3)), (by first | rfl | (simp; done) | (simp [*]; done)), H', ⟨by first | omega | exact Nat.le_refl _⟩, by repeat (first | exact Drawn0.refl _ | apply Drawn0.step)⟩
      · rw [if_neg c5] at H
        have c5b0 : (a1 == 3) = false := beq_eq_false_iff_ne.mpr c5
        have c5b1 : (a1 != 3) = true := bne_iff_ne.mpr c5
        by_cases c6 : a1 = 5
        · rw [if_pos c6] at H
          have c6b0 : (a1 == 5) = true := beq_iff_eq.mpr c6
          have c6b1 : (a1 != 5) = false := bne_eq_false_iff_eq.mpr c6
          clear c6
          have H' := Aside0.mk H
          clear H
          go_wp2
          go_meet
          case rel => exact ⟨_, ((a1 == 5)), (by first | rfl | (simp; done) | (simp [*]; done)), H', ⟨by first | omega | exact Nat.le_refl _⟩, by repeat (first | exact Drawn0.refl _ | apply Drawn0.step)⟩
        · rw [if_neg c6] at H
          have c6b0 : (a1 == 5) = false := beq_eq_false_iff_ne.mpr c6
          have c6b1 : (a1 != 5) = true := bne_iff_ne.mpr c6
          by_cases c7 : a1 = 7
          · rw [if_pos c7] at H
            have c7b0 : (a1 == 7) = true := beq_iff_eq.mpr c7
            have c7b1 : (a1 != 7) = false := bne_eq_false_iff_eq.mpr c7
            clear c7
            have H' := Aside0.mk H
            clear H
            go_wp2
            go_meet
            case rel => exact ⟨_, ((a1 == 7)), (by first | rfl | (simp; done) | (simp [*]; done)), H', ⟨by first | omega | exact Nat.le_refl _⟩, by repeat (first | exact Drawn0.refl _ | apply Drawn0.step)⟩
          · rw [if_neg c7] at H
            have c7b0 : (a1 == 7) = false := beq_eq_false_iff_ne.mpr c7
            have c7b1 : (a1 != 7) = true := bne_iff_ne.mpr c7
            by_cases c8 : a1 = 8
            · rw [if_pos c8] at H
              have c8b0 : (a1 == 8) = true := beq_iff_eq.mpr c8
              have c8b1 : (a1 != 8) = false := bne_eq_false_iff_eq.mpr c8
              clear c8
              have H' := Aside0.mk H
              clear H
              go_wp2
              go_meet
              case rel => exact ⟨_, ((a1 == 8)), (by first | rfl | (simp; done) | (simp [*]; done)), H', ⟨by first | omega | exact Nat.le_refl _⟩, by repeat (first | exact Drawn0.refl _ | apply Drawn0.step)⟩
            · rw [if_neg c8] at H
              have c8b0 : (a1 == 8) = false := beq_eq_false_iff_ne.mpr c8
              have c8b1 : (a1 != 8) = true := bne_iff_ne.mpr c8
              by_cases c9 : a1 = 10
              · rw [if_pos c9] at H
                have c9b0 : (a1 == 10) = true := beq_iff_eq.mpr c9
                have c9b1 : (a1 != 10) = false := bne_eq_false_iff_eq.mpr c9
                clear c9
                have H' := Aside0.mk H
                clear H
                go_wp2
                go_meet
                case rel => exact ⟨_, ((a1 == 10)), (by first | rfl | (simp; done) | (simp [*]; done)), H', ⟨by first | omega | exact Nat.le_refl _⟩, by repeat (first | exact Drawn0.refl _ | apply Drawn0.step)⟩
              · rw [if_neg c9] at H
                have c9b0 : (a1 == 10) = false := beq_eq_false_iff_ne.mpr c9
                have c9b1 : (a1 != 10) = true := bne_iff_ne.mpr c9
                have H' := Aside0.mk H
                clear H
                go_wp2
                go_meet
                case rel => exact ⟨_, ((a1 == 12)), (by first | rfl | (simp; done) | (simp [*]; done)), H', ⟨by first | omega | exact Nat.le_refl _⟩, by repeat (first | exact Drawn0.refl _ | apply Drawn0.step)⟩
  case rest =>
    clear HC3
    try clear p2
    try clear c4
    try clear c4b0
    try clear c4b1
    try clear c5
    try clear c5b0
    try clear c5b1
    try clear c6
    try clear c6b0
    try clear c6b1
    try clear c7
    try clear c7b0
    try clear c7b1
    try clear c8
    try clear c8b0
    try clear c8b1
    try clear c9
    try clear c9b0
    try clear c9b1
    obtain ⟨kq, x6_2, rfl, HA, HJ2, ⟨mc2, rfl⟩⟩ := hcut
    cases kq with
    | zero => exact absurd HA.out (by simp [corebankref04_Length.j0])
    | succ kj2 =>
      have H := HA.out
      clear HA
      simp only [corebankref04_Length.j0] at H
      by_cases c10 : x6_2 = true
      · subst c10
        have H1 : (some 31) = some r := by rw [if_pos rfl] at H; exact H
        clear H
        have H := H1
        clear H1
        obtain rfl := Option.some.inj H
        go_wp2
        go_ret
        exact ⟨by first | rfl | (simp; done) | (simp [*]; done), by repeat (first | exact Drawn0.refl _ | apply Drawn0.step)⟩
      · replace c10 := Bool.eq_false_iff.mpr c10
        subst c10
        have H1 : (if a1 = 4 then (corebankref04_Length.j1 kj2 a0 a1 (a1 == 4)) else (if a1 = 6 then (corebankref04_Length.j1 kj2 a0 a1 (a1 == 6)) else (if a1 = 9 then (corebankref04_Length.j1 kj2 a0 a1 (a1 == 9)) else (corebankref04_Length.j1 kj2 a0 a1 (a1 == 11))))) = some r := by rw [if_neg (show ¬ (false = true) by decide)] at H; exact H
        clear H
        have H := H1
        clear H1
        have HC11 := Aside0.mk H
        clear H
        go_upto_if 14 with (fail)
        go_cut [14] (fun v14 wc => ∃ (kq : Nat) (x14_10 : Bool), v14 = .bool x14_10 ∧ Aside0 (corebankref04_Length.j1 kq a0 a1 x14_10 = some r) ∧ Aside0 (kq ≤ kj2) ∧ Drawn0 w wc)
        case first =>
          have H := HC11.out
          clear HC11
          by_cases c12 : a1 = 4
          · rw [if_pos c12] at H
            have c12b0 : (a1 == 4) = true := beq_iff_eq.mpr c12
            have c12b1 : (a1 != 4) = false := bne_eq_false_iff_eq.mpr c12
            clear c12
            (first | rw [c12b0] | (simp only [i64_w, i32_w]; rw [c12b0]) | skip)
            have H' := Aside0.mk H
            clear H
            go_wp2
            go_meet
            case rel => exact ⟨_, ((a1 == 4)), (by first | rfl | (simp; done) | (simp [*]; done)), H', ⟨by have := HJ2.out; first | omega | exact Nat.le_refl _⟩, by repeat (first | exact Drawn0.refl _ | apply Drawn0.step)⟩
          · rw [if_neg c12] at H
            have c12b0 : (a1 == 4) = false := beq_eq_false_iff_ne.mpr c12
            have c12b1 : (a1 != 4) = true := bne_iff_ne.mpr c12
            (first | rw [c12b0] | (simp only [i64_w, i32_w]; rw [c12b0]) | skip)
            by_cases c13 : a1 = 6
            · rw [if_pos c13] at H
              have c13b0 : (a1 == 6) = true := beq_iff_eq.mpr c13
              have c13b1 : (a1 != 6) = false := bne_eq_false_iff_eq.mpr c13
              clear c13
              have H' := Aside0.mk H
              clear H
              go_wp2
              go_meet
              case rel => exact ⟨_, ((a1 == 6)), (by first | rfl | (simp; done) | (simp [*]; done)), H', ⟨by have := HJ2.out; first | omega | exact Nat.le_refl _⟩, by repeat (first | exact Drawn0.refl _ | apply Drawn0.step)⟩
            · rw [if_neg c13] at H
              have c13b0 : (a1 == 6) = false := beq_eq_false_iff_ne.mpr c13
              have c13b1 : (a1 != 6) = true := bne_iff_ne.mpr c13
              by_cases c14 : a1 = 9
              · rw [if_pos c14] at H
                have c14b0 : (a1 == 9) = true := beq_iff_eq.mpr c14
                have c14b1 : (a1 != 9) = false := bne_eq_false_iff_eq.mpr c14
                clear c14
                have H' := Aside0.mk H
                clear H
                go_wp2
                go_meet
                case rel => exact ⟨_, ((a1 == 9)), (by first | rfl | (simp; done) | (simp [*]; done)), H', ⟨by have := HJ2.out; first | omega | exact Nat.le_refl _⟩, by repeat (first | exact Drawn0.refl _ | apply Drawn0.step)⟩
              · rw [if_neg c14] at H
                have c14b0 : (a1 == 9) = false := beq_eq_false_iff_ne.mpr c14
                have c14b1 : (a1 != 9) = true := bne_iff_ne.mpr c14
                have H' := Aside0.mk H
                clear H
                go_wp2
                go_meet
                case rel => exact ⟨_, ((a1 == 11)), (by first | rfl | (simp; done) | (simp [*]; done)), H', ⟨by have := HJ2.out; first | omega | exact Nat.le_refl _⟩, by repeat (first | exact Drawn0.refl _ | apply Drawn0.step)⟩
        case rest =>
          clear HC11
          try clear c1
          try clear c2
          try clear p2
          try clear c4
          try clear c4b0
          try clear c4b1
          try clear c5
          try clear c5b0
          try clear c5b1
          try clear c6
          try clear c6b0
          try clear c6b1
          try clear c7
          try clear c7b0
          try clear c7b1
          try clear c8
          try clear c8b0
          try clear c8b1
          try clear c9
          try clear c9b0
          try clear c9b1
          try clear c10
          try clear c12
          try clear c12b0
          try clear c12b1
          try clear c13
          try clear c13b0
          try clear c13b1
          try clear c14
          try clear c14b0
          try clear c14b1
          try clear p2
          obtain ⟨kq, x14_10, rfl, HA, HJ10, ⟨mc10, rfl⟩⟩ := hcut
          cases kq with
          | zero => exact absurd HA.out (by simp [corebankref04_Length.j1])
          | succ kj10 =>
            have H := HA.out
            clear HA
            simp only [corebankref04_Length.j1] at H
            by_cases c15 : x14_10 = true
            · subst c15
              have H1 : (some 30) = some r := by rw [if_pos rfl] at H; exact H
              clear H
              have H := H1
              clear H1
              obtain rfl := Option.some.inj H
              go_wp2
              go_ret
              exact ⟨by first | rfl | (simp; done) | (simp [*]; done), by repeat (first | exact Drawn0.refl _ | apply Drawn0.step)⟩
            · replace c15 := Bool.eq_false_iff.mpr c15
              subst c15
              have H1 : (if a1 = 2 then ((corebankref04_Leap.f a0).bind fun t121 => (if t121 = true then (some 29) else (some 28))) else (some 0)) = some r := by rw [if_neg (show ¬ (false = true) by decide)] at H; exact H
              clear H
              have H := H1
              clear H1
              by_cases c16 : a1 = 2
              · rw [if_pos c16] at H
                have c16b0 : (a1 == 2) = true := beq_iff_eq.mpr c16
                have c16b1 : (a1 != 2) = false := bne_eq_false_iff_eq.mpr c16
                clear c16
                replace H := Option.bind_eq_some_iff.mp H
                obtain ⟨t121, A170, H⟩ := H
                replace H : (if t121 = true then (some 29) else (some 28)) = some r := H
                have A17 := Aside0.mk A170
                clear A170
                by_cases c18 : t121 = true
                · subst c18
                  have H1 : (some 29) = some r := by rw [if_pos rfl] at H; exact H
                  clear H
                  have H := H1
                  clear H1
                  obtain rfl := Option.some.inj H
                  go_wp2_with (first | ((with_reducible refine gate_callee (f := 83) rfl ?_); refine goesL_ (some 22) rfl rfl Try.func83 (by kernel_rfl) rfl #[.int .i64 a0] rfl zm ?_; (with_reducible refine (corebankref04_Leap.calls a0 true _ A17.out).mono ?_); rintro e w' ⟨rfl, ⟨nd, rfl⟩⟩; refine ⟨_, rfl, ?_⟩))
                  go_ret
                  exact ⟨by first | rfl | (simp; done) | (simp [*]; done), by repeat (first | exact Drawn0.refl _ | apply Drawn0.step)⟩
                · replace c18 := Bool.eq_false_iff.mpr c18
                  subst c18
                  have H1 : (some 28) = some r := by rw [if_neg (show ¬ (false = true) by decide)] at H; exact H
                  clear H
                  have H := H1
                  clear H1
                  obtain rfl := Option.some.inj H
                  go_wp2_with (first | ((with_reducible refine gate_callee (f := 83) rfl ?_); refine goesL_ (some 22) rfl rfl Try.func83 (by kernel_rfl) rfl #[.int .i64 a0] rfl zm ?_; (with_reducible refine (corebankref04_Leap.calls a0 false _ A17.out).mono ?_); rintro e w' ⟨rfl, ⟨nd, rfl⟩⟩; refine ⟨_, rfl, ?_⟩))
                  go_ret
                  exact ⟨by first | rfl | (simp; done) | (simp [*]; done), by repeat (first | exact Drawn0.refl _ | apply Drawn0.step)⟩
              · rw [if_neg c16] at H
                have c16b0 : (a1 == 2) = false := beq_eq_false_iff_ne.mpr c16
                have c16b1 : (a1 != 2) = true := bne_iff_ne.mpr c16
                obtain rfl := Option.some.inj H
                go_wp2
                go_ret
                exact ⟨by first | rfl | (simp; done) | (simp [*]; done), by repeat (first | exact Drawn0.refl _ | apply Drawn0.step)⟩

end Go.Proofs.Ytlmabdiodopidaa.P
end
section
set_option linter.unusedVariables false
set_option linter.unusedSimpArgs false
namespace Go.Proofs.Ytlmabdiodopidaa.P
open Go.Proofs.Ytlmabdiodopidaa.G
attribute [local go_sem high] un_not64 un_noti run_add64
open Go.RowKit Go.Proofs.YtlmabdiodopidaaW.PrintWords Go.Proofs.YtlmabdiodopidaaW.PrintLast Go.Proofs.YtlmabdiodopidaaW.PrintMore
attribute [local go_sem] max2_int min2_int max_two min_two max_three min_three max_four min_four   -- for this text's walks alone
set_option linter.unusedVariables false
set_option linter.unusedSimpArgs false

/-! ### corebankref04_Civil: function 82 -/
mutual
def corebankref04_Civil.l0 : Nat → Int → Int → Int → Option (Int × Int × Int)
  | 0, _, _, _ => none
  | k + 1, x0, x5, x6 => (corebankref04_yearLength.f x5).bind fun t123 => (if x0 ≥ t123 then ((corebankref04_yearLength.f x5).bind fun t124 => (corebankref04_Civil.l0 k (wrap64 (x0 - t124)) (wrap64 (x5 + 1)) x6)) else (corebankref04_Civil.l1 k x0 x5 x6))
def corebankref04_Civil.l1 : Nat → Int → Int → Int → Option (Int × Int × Int)
  | 0, _, _, _ => none
  | k + 1, x0, x5, x6 => (corebankref04_Length.f k x5 x6).bind fun t125 => (if x0 ≥ t125 then ((corebankref04_Length.f k x5 x6).bind fun t126 => (corebankref04_Civil.l1 k (wrap64 (x0 - t126)) x5 (wrap64 (x6 + 1)))) else (some (x5, x6, wrap64 (x0 + 1))))
end
def corebankref04_Civil.f (k : Nat) (a0 : Int) : Option (Int × Int × Int) := (corebankref04_Valid.f a0).bind fun t122 => (if t122 = true then (corebankref04_Civil.l0 k a0 2000 1) else (some (0, 0, 0)))
theorem corebankref04_Civil.mono_l : ∀ k, (∀ y0 y1 y2, LeO (corebankref04_Civil.l0 k y0 y1 y2) (corebankref04_Civil.l0 (k + 1) y0 y1 y2)) ∧ (∀ y0 y1 y2, LeO (corebankref04_Civil.l1 k y0 y1 y2) (corebankref04_Civil.l1 (k + 1) y0 y1 y2))
  | 0 => ⟨fun _ _ _ r h => by simp [corebankref04_Civil.l0] at h, fun _ _ _ r h => by simp [corebankref04_Civil.l1] at h⟩
  | k + 1 => by
    obtain ⟨ih0, ih1⟩ := corebankref04_Civil.mono_l k
    refine ⟨?_, ?_⟩
    · intro y0 y1 y2
      unfold corebankref04_Civil.l0
      repeat' first
      | (with_reducible exact ih0 _ _ _)
      | (with_reducible exact ih1 _ _ _)
      | (with_reducible exact corebankref04_Length.mono _ _ _)
      | (with_reducible exact LeO.refl _)
      | (with_reducible exact LeO.none _)
      | (with_reducible refine LeO.ite ?_ ?_)
      | (with_reducible refine LeO.bind ?_ (fun _ => ?_))
      | exact ih0 _ _ _
      | exact ih1 _ _ _
      | exact corebankref04_Length.mono _ _ _
      | exact LeO.none _
      | refine LeO.ite ?_ ?_
      | refine LeO.bind ?_ (fun _ => ?_)
    · intro y0 y1 y2
      unfold corebankref04_Civil.l1
      repeat' first
      | (with_reducible exact ih0 _ _ _)
      | (with_reducible exact ih1 _ _ _)
      | (with_reducible exact corebankref04_Length.mono _ _ _)
      | (with_reducible exact LeO.refl _)
      | (with_reducible exact LeO.none _)
      | (with_reducible refine LeO.ite ?_ ?_)
      | (with_reducible refine LeO.bind ?_ (fun _ => ?_))
      | exact ih0 _ _ _
      | exact ih1 _ _ _
      | exact corebankref04_Length.mono _ _ _
      | exact LeO.none _
      | refine LeO.ite ?_ ?_
      | refine LeO.bind ?_ (fun _ => ?_)
theorem corebankref04_Civil.mono : ∀ a0 k, LeO (corebankref04_Civil.f k a0) (corebankref04_Civil.f (k + 1) a0) := by
  intro a0 k
  obtain ⟨ih0, ih1⟩ := corebankref04_Civil.mono_l k
  unfold corebankref04_Civil.f
  repeat' first
      | (with_reducible exact ih0 _ _ _)
      | (with_reducible exact ih1 _ _ _)
      | (with_reducible exact corebankref04_Length.mono _ _ _)
      | (with_reducible exact LeO.refl _)
      | (with_reducible exact LeO.none _)
      | (with_reducible refine LeO.ite ?_ ?_)
      | (with_reducible refine LeO.bind ?_ (fun _ => ?_))
      | exact ih0 _ _ _
      | exact ih1 _ _ _
      | exact corebankref04_Length.mono _ _ _
      | exact LeO.none _
      | refine LeO.ite ?_ ?_
      | refine LeO.bind ?_ (fun _ => ?_)
set_option maxHeartbeats 8000000 in
set_option maxRecDepth 100000 in
theorem corebankref04_Civil.calls (k : Nat) (a0 : Int) (r1 : Int) (r2 : Int) (r3 : Int) (w : World) (h : corebankref04_Civil.f k a0 = some (r1, r2, r3)) :
    Calls Try.prog 82 #[.int .i64 a0] w fun e w' => e = .returned (.tuple #[.int .i64 r1, .int .i64 r2, .int .i64 r3]) ∧ Drawn0 w w' := by
  have H : ((corebankref04_Valid.f a0).bind fun t122 => (if t122 = true then (corebankref04_Civil.l0 k a0 2000 1) else (some (0, 0, 0)))) = some (r1, r2, r3) := h
  clear h
  replace H := Option.bind_eq_some_iff.mp H
  obtain ⟨t122, A20, H⟩ := H
  replace H : (if t122 = true then (corebankref04_Civil.l0 k a0 2000 1) else (some (0, 0, 0))) = some (r1, r2, r3) := H
  have A2 := Aside0.mk A20
  clear A20
  by_cases c3 : t122 = true
  · subst c3
    have H1 : (corebankref04_Civil.l0 k a0 2000 1) = some (r1, r2, r3) := by rw [if_pos rfl] at H; exact H
    clear H
    have H := H1
    clear H1
    have H' := Aside0.mk H
    clear H
    go_enter Try.func82, Try.ntmps82
    go_wp2_with (first | ((with_reducible refine gate_callee (f := 55) rfl ?_); refine goesL_ (some 8) rfl rfl Try.func55 (by kernel_rfl) rfl #[.int .i64 a0] rfl zm ?_; (with_reducible refine (corebankref04_Valid.calls a0 true _ A2.out).mono ?_); rintro e w' ⟨rfl, ⟨nd, rfl⟩⟩; refine ⟨_, rfl, ?_⟩))
    go_loopg [0, 5] k (fun kq v0 v5 w' => ∃ (x0_1 : Int) (x5_1 : Int), v0 = .int .i64 x0_1 ∧ v5 = .int .i64 x5_1 ∧ Aside0 (corebankref04_Civil.l0 kq x0_1 x5_1 1 = some (r1, r2, r3)) ∧ Aside0 (kq ≤ k) ∧ Drawn0 w w')
    case atStart => exact ⟨(a0), (2000), (by first | rfl | (simp; done) | (simp [*]; done)), (by first | rfl | (simp; done) | (simp [*]; done)), H', ⟨Nat.le_refl _⟩, by repeat (first | exact Drawn0.refl _ | apply Drawn0.step)⟩
    case round =>
      clear H'
      try clear p2
      try clear c3
      obtain ⟨x0_1, x5_1, rfl, rfl, HA, HK1, ⟨m1, rfl⟩⟩ := hrel
      cases gk with
      | zero => exact absurd HA.out (by simp [corebankref04_Civil.l0])
      | succ k1 =>
        have H := HA.out
        clear HA
        simp only [corebankref04_Civil.l0] at H
        replace H := Option.bind_eq_some_iff.mp H
        obtain ⟨t123, A40, H⟩ := H
        replace H : (if x0_1 ≥ t123 then ((corebankref04_yearLength.f x5_1).bind fun t124 => (corebankref04_Civil.l0 k1 (wrap64 (x0_1 - t124)) (wrap64 (x5_1 + 1)) 1)) else (corebankref04_Civil.l1 k1 x0_1 x5_1 1)) = some (r1, r2, r3) := H
        have A4 := Aside0.mk A40
        clear A40
        by_cases c5 : x0_1 ≥ t123
        · rw [if_pos c5] at H
          have c5b0 : decide (t123 ≤ x0_1) = true := decide_eq_true c5
          clear c5
          replace H := Option.bind_eq_some_iff.mp H
          obtain ⟨t124, A60, H⟩ := H
          replace H : (corebankref04_Civil.l0 k1 (wrap64 (x0_1 - t124)) (wrap64 (x5_1 + 1)) 1) = some (r1, r2, r3) := H
          have A6 := Aside0.mk A60
          clear A60
          have H' := Aside0.mk H
          clear H
          go_wp2_with (first | ((with_reducible refine gate_callee (f := 92) rfl ?_); refine goesL_ (some 12) rfl rfl Try.func92 (by kernel_rfl) rfl #[.int .i64 x5_1] rfl zm ?_; (with_reducible refine (corebankref04_yearLength.calls x5_1 t123 _ A4.out).mono ?_); rintro e w' ⟨rfl, ⟨nd, rfl⟩⟩; refine ⟨_, rfl, ?_⟩) | ((with_reducible refine gate_callee (f := 92) rfl ?_); refine goesL_ (some 16) rfl rfl Try.func92 (by kernel_rfl) rfl #[.int .i64 x5_1] rfl zm ?_; (with_reducible refine (corebankref04_yearLength.calls x5_1 t124 _ A6.out).mono ?_); rintro e w' ⟨rfl, ⟨nd, rfl⟩⟩; refine ⟨_, rfl, ?_⟩))
          go_roundg k1
          case measure => have := HK1.out; omega
          case rel => exact ⟨(wrap64 (x0_1 - t124)), (wrap64 (x5_1 + 1)), (by first | rfl | (simp; done) | (simp [*]; done)), (by first | rfl | (simp; done) | (simp [*]; done)), H', ⟨by have := HK1.out; omega⟩, by repeat (first | exact Drawn0.refl _ | apply Drawn0.step)⟩
        · rw [if_neg c5] at H
          have c5b0 : decide (t123 ≤ x0_1) = false := decide_eq_false c5
          clear c5
          have H' := Aside0.mk H
          clear H
          go_wp2_with (first | ((with_reducible refine gate_callee (f := 92) rfl ?_); refine goesL_ (some 12) rfl rfl Try.func92 (by kernel_rfl) rfl #[.int .i64 x5_1] rfl zm ?_; (with_reducible refine (corebankref04_yearLength.calls x5_1 t123 _ A4.out).mono ?_); rintro e w' ⟨rfl, ⟨nd, rfl⟩⟩; refine ⟨_, rfl, ?_⟩))
          go_loopg [0, 6] k1 (fun kq v0 v6 w' => ∃ (x0_2 : Int) (x6_2 : Int), v0 = .int .i64 x0_2 ∧ v6 = .int .i64 x6_2 ∧ Aside0 (corebankref04_Civil.l1 kq x0_2 x5_1 x6_2 = some (r1, r2, r3)) ∧ Aside0 (kq ≤ k1) ∧ Drawn0 w w')
          case atStart => exact ⟨(x0_1), (1), (by first | rfl | (simp; done) | (simp [*]; done)), (by first | rfl | (simp; done) | (simp [*]; done)), H', ⟨Nat.le_refl _⟩, by repeat (first | exact Drawn0.refl _ | apply Drawn0.step)⟩
          case round =>
            clear H'
            try clear p2
            try clear c3
            try clear c5
            try clear c5b0
            try clear p6
            try clear p2
            obtain ⟨x0_2, x6_2, rfl, rfl, HA, HK2, ⟨m2, rfl⟩⟩ := hrel
            cases gk with
            | zero => exact absurd HA.out (by simp [corebankref04_Civil.l1])
            | succ k2 =>
              have H := HA.out
              clear HA
              simp only [corebankref04_Civil.l1] at H
              replace H := Option.bind_eq_some_iff.mp H
              obtain ⟨t125, A70, H⟩ := H
              replace H : (if x0_2 ≥ t125 then ((corebankref04_Length.f k2 x5_1 x6_2).bind fun t126 => (corebankref04_Civil.l1 k2 (wrap64 (x0_2 - t126)) x5_1 (wrap64 (x6_2 + 1)))) else (some (x5_1, x6_2, wrap64 (x0_2 + 1)))) = some (r1, r2, r3) := H
              have A7 := Aside0.mk A70
              clear A70
              by_cases c8 : x0_2 ≥ t125
              · rw [if_pos c8] at H
                have c8b0 : decide (t125 ≤ x0_2) = true := decide_eq_true c8
                clear c8
                replace H := Option.bind_eq_some_iff.mp H
                obtain ⟨t126, A90, H⟩ := H
                replace H : (corebankref04_Civil.l1 k2 (wrap64 (x0_2 - t126)) x5_1 (wrap64 (x6_2 + 1))) = some (r1, r2, r3) := H
                have A9 := Aside0.mk A90
                clear A90
                have H' := Aside0.mk H
                clear H
                go_wp2_with (first | ((with_reducible refine gate_callee (f := 93) rfl ?_); refine goesL_ (some 23) rfl rfl Try.func93 (by kernel_rfl) rfl #[.int .i64 x5_1, .int .i64 x6_2] rfl zm ?_; (with_reducible refine (corebankref04_Length.calls k2 x5_1 x6_2 t125 _ A7.out).mono ?_); rintro e w' ⟨rfl, ⟨nd, rfl⟩⟩; refine ⟨_, rfl, ?_⟩) | ((with_reducible refine gate_callee (f := 93) rfl ?_); refine goesL_ (some 28) rfl rfl Try.func93 (by kernel_rfl) rfl #[.int .i64 x5_1, .int .i64 x6_2] rfl zm ?_; (with_reducible refine (corebankref04_Length.calls k2 x5_1 x6_2 t126 _ A9.out).mono ?_); rintro e w' ⟨rfl, ⟨nd, rfl⟩⟩; refine ⟨_, rfl, ?_⟩))
                go_roundg k2
                case measure => have := HK1.out; have := HK2.out; omega
                case rel => exact ⟨(wrap64 (x0_2 - t126)), (wrap64 (x6_2 + 1)), (by first | rfl | (simp; done) | (simp [*]; done)), (by first | rfl | (simp; done) | (simp [*]; done)), H', ⟨by have := HK1.out; have := HK2.out; omega⟩, by repeat (first | exact Drawn0.refl _ | apply Drawn0.step)⟩
              · rw [if_neg c8] at H
                have c8b0 : decide (t125 ≤ x0_2) = false := decide_eq_false c8
                clear c8
                simp only [Option.some.injEq, Prod.mk.injEq] at H
                obtain ⟨rfl, rfl, rfl⟩ := H
                go_wp2_with (first | ((with_reducible refine gate_callee (f := 93) rfl ?_); refine goesL_ (some 23) rfl rfl Try.func93 (by kernel_rfl) rfl #[.int .i64 x5_1, .int .i64 x6_2] rfl zm ?_; (with_reducible refine (corebankref04_Length.calls k2 x5_1 x6_2 t125 _ A7.out).mono ?_); rintro e w' ⟨rfl, ⟨nd, rfl⟩⟩; refine ⟨_, rfl, ?_⟩))
                go_ret3
                exact ⟨by first | rfl | (simp; done) | (simp [*]; done), by repeat (first | exact Drawn0.refl _ | apply Drawn0.step)⟩
  · replace c3 := Bool.eq_false_iff.mpr c3
    subst c3
    have H1 : (some (0, 0, 0)) = some (r1, r2, r3) := by rw [if_neg (show ¬ (false = true) by decide)] at H; exact H
    clear H
    have H := H1
    clear H1
    simp only [Option.some.injEq, Prod.mk.injEq] at H
    obtain ⟨rfl, rfl, rfl⟩ := H
    go_enter Try.func82, Try.ntmps82
    go_wp2_with (first | ((with_reducible refine gate_callee (f := 55) rfl ?_); refine goesL_ (some 8) rfl rfl Try.func55 (by kernel_rfl) rfl #[.int .i64 a0] rfl zm ?_; (with_reducible refine (corebankref04_Valid.calls a0 false _ A2.out).mono ?_); rintro e w' ⟨rfl, ⟨nd, rfl⟩⟩; refine ⟨_, rfl, ?_⟩))
    go_ret3
    exact ⟨by first | rfl | (simp; done) | (simp [*]; done), by repeat (first | exact Drawn0.refl _ | apply Drawn0.step)⟩

/-! ### corebankref06_Thirty: function 84 -/
def corebankref06_Thirty.j0 : Nat → Int → Int → Bool → Option (Int)
  | 0, _, _, _ => none
  | k + 1, x0, x1, x18 => if x18 = true then (some 0) else ((corebankref04_Civil.f k x0).bind fun bt129 => ((corebankref04_Civil.f k x1).bind fun bt132 => (some (wrap64 ((wrap64 ((wrap64 ((wrap64 (360 * (wrap64 (bt132.1 - bt129.1)))) + (wrap64 (30 * (wrap64 (bt132.2.1 - bt129.2.1)))))) + (mn bt132.2.2 30))) - (mn bt129.2.2 30))))))
def corebankref06_Thirty.f (k : Nat) (a0 : Int) (a1 : Int) : Option (Int) := (corebankref04_Valid.f a0).bind fun t127 => (if t127 = true then ((corebankref04_Valid.f a1).bind fun t128 => (corebankref06_Thirty.j0 k a0 a1 (!t128))) else (corebankref06_Thirty.j0 k a0 a1 true))
theorem corebankref06_Thirty.mono_l : ∀ k, (∀ y0 y1 y2, LeO (corebankref06_Thirty.j0 k y0 y1 y2) (corebankref06_Thirty.j0 (k + 1) y0 y1 y2))
  | 0 => fun _ _ _ r h => by simp [corebankref06_Thirty.j0] at h
  | k + 1 => by
    have ih0 := corebankref06_Thirty.mono_l k
    · intro y0 y1 y2
      unfold corebankref06_Thirty.j0
      repeat' first
      | (with_reducible exact ih0 _ _ _)
      | (with_reducible exact corebankref04_Civil.mono _ _)
      | (with_reducible exact LeO.refl _)
      | (with_reducible exact LeO.none _)
      | (with_reducible refine LeO.ite ?_ ?_)
      | (with_reducible refine LeO.bind ?_ (fun _ => ?_))
      | exact ih0 _ _ _
      | exact corebankref04_Civil.mono _ _
      | exact LeO.none _
      | refine LeO.ite ?_ ?_
      | refine LeO.bind ?_ (fun _ => ?_)
theorem corebankref06_Thirty.mono : ∀ a0 a1 k, LeO (corebankref06_Thirty.f k a0 a1) (corebankref06_Thirty.f (k + 1) a0 a1) := by
  intro a0 a1 k
  have ih0 := corebankref06_Thirty.mono_l k
  unfold corebankref06_Thirty.f
  repeat' first
      | (with_reducible exact ih0 _ _ _)
      | (with_reducible exact corebankref04_Civil.mono _ _)
      | (with_reducible exact LeO.refl _)
      | (with_reducible exact LeO.none _)
      | (with_reducible refine LeO.ite ?_ ?_)
      | (with_reducible refine LeO.bind ?_ (fun _ => ?_))
      | exact ih0 _ _ _
      | exact corebankref04_Civil.mono _ _
      | exact LeO.none _
      | refine LeO.ite ?_ ?_
      | refine LeO.bind ?_ (fun _ => ?_)
set_option maxHeartbeats 8000000 in
set_option maxRecDepth 100000 in
theorem corebankref06_Thirty.calls (k : Nat) (a0 : Int) (a1 : Int) (r : Int) (w : World) (h : corebankref06_Thirty.f k a0 a1 = some r) :
    Calls Try.prog 84 #[.int .i64 a0, .int .i64 a1] w fun e w' => e = .returned (.int .i64 r) ∧ Below w.heap.size w w' := by
  have HB := Aside0.mk (Below.refl w.heap.size w)
  have H : ((corebankref04_Valid.f a0).bind fun t127 => (if t127 = true then ((corebankref04_Valid.f a1).bind fun t128 => (corebankref06_Thirty.j0 k a0 a1 (!t128))) else (corebankref06_Thirty.j0 k a0 a1 true))) = some r := h
  clear h
  have HC3 := Aside0.mk H
  clear H
  go_enter Try.func84, Try.ntmps84
  go_upto_region 1 with (fail)
  go_cut [18] (fun v18 wc => ∃ (kq : Nat) (x18_2 : Bool), v18 = .bool x18_2 ∧ Aside0 (corebankref06_Thirty.j0 kq a0 a1 x18_2 = some r) ∧ Aside0 (kq ≤ k) ∧ Aside0 (Below w.heap.size w wc))
  case first =>
    have H := HC3.out
    clear HC3
    replace H := Option.bind_eq_some_iff.mp H
    obtain ⟨t127, A40, H⟩ := H
    replace H : (if t127 = true then ((corebankref04_Valid.f a1).bind fun t128 => (corebankref06_Thirty.j0 k a0 a1 (!t128))) else (corebankref06_Thirty.j0 k a0 a1 true)) = some r := H
    have A4 := Aside0.mk A40
    clear A40
    by_cases c5 : t127 = true
    · subst c5
      have H1 : ((corebankref04_Valid.f a1).bind fun t128 => (corebankref06_Thirty.j0 k a0 a1 (!t128))) = some r := by rw [if_pos rfl] at H; exact H
      clear H
      have H := H1
      clear H1
      replace H := Option.bind_eq_some_iff.mp H
      obtain ⟨t128, A60, H⟩ := H
      replace H : (corebankref06_Thirty.j0 k a0 a1 (!t128)) = some r := H
      have A6 := Aside0.mk A60
      clear A60
      have H' := Aside0.mk H
      clear H
      go_wp2_with (first | ((with_reducible refine gate_callee (f := 55) rfl ?_); refine goesL_ (some 12) rfl rfl Try.func55 (by kernel_rfl) rfl #[.int .i64 a0] rfl zm ?_; (with_reducible refine (corebankref04_Valid.calls a0 true _ A4.out).mono ?_); rintro e w' ⟨rfl, ⟨nd, rfl⟩⟩; refine ⟨_, rfl, ?_⟩) | (go_at_call 55; (with_reducible refine (corebankref04_Valid.calls a1 t128 _ A6.out).mono ?_); rintro e w' ⟨rfl, ⟨nd, rfl⟩⟩))
      go_meet
      case rel => exact ⟨_, (!t128), (by first | rfl | (simp; done) | (simp [*]; done)), H', ⟨by first | omega | exact Nat.le_refl _⟩, ⟨hq HB⟩⟩
    · replace c5 := Bool.eq_false_iff.mpr c5
      subst c5
      have H1 : (corebankref06_Thirty.j0 k a0 a1 true) = some r := by rw [if_neg (show ¬ (false = true) by decide)] at H; exact H
      clear H
      have H := H1
      clear H1
      have H' := Aside0.mk H
      clear H
      go_wp2_with (first | ((with_reducible refine gate_callee (f := 55) rfl ?_); refine goesL_ (some 12) rfl rfl Try.func55 (by kernel_rfl) rfl #[.int .i64 a0] rfl zm ?_; (with_reducible refine (corebankref04_Valid.calls a0 false _ A4.out).mono ?_); rintro e w' ⟨rfl, ⟨nd, rfl⟩⟩; refine ⟨_, rfl, ?_⟩))
      go_meet
      case rel => exact ⟨_, (true), (by first | rfl | (simp; done) | (simp [*]; done)), H', ⟨by first | omega | exact Nat.le_refl _⟩, ⟨hq HB⟩⟩
  case rest =>
    clear HC3
    try clear p2
    try clear c5
    obtain ⟨kq, x18_2, rfl, HA, HJ2, HB⟩ := hcut
    cases kq with
    | zero => exact absurd HA.out (by simp [corebankref06_Thirty.j0])
    | succ kj2 =>
      have H := HA.out
      clear HA
      simp only [corebankref06_Thirty.j0] at H
      by_cases c7 : x18_2 = true
      · subst c7
        have H1 : (some 0) = some r := by rw [if_pos rfl] at H; exact H
        clear H
        have H := H1
        clear H1
        obtain rfl := Option.some.inj H
        go_wp2
        go_ret
        exact ⟨by first | rfl | (simp [errW_none, errW_some] <;> rfl) | (simp [*, errW_none, errW_some] <;> rfl), hq HB⟩
      · replace c7 := Bool.eq_false_iff.mpr c7
        subst c7
        have H1 : ((corebankref04_Civil.f kj2 a0).bind fun bt129 => ((corebankref04_Civil.f kj2 a1).bind fun bt132 => (some (wrap64 ((wrap64 ((wrap64 ((wrap64 (360 * (wrap64 (bt132.1 - bt129.1)))) + (wrap64 (30 * (wrap64 (bt132.2.1 - bt129.2.1)))))) + (mn bt132.2.2 30))) - (mn bt129.2.2 30)))))) = some r := by rw [if_neg (show ¬ (false = true) by decide)] at H; exact H
        clear H
        have H := H1
        clear H1
        replace H := Option.bind_eq_some_iff.mp H
        obtain ⟨⟨t129, t130, t131⟩, A80, H⟩ := H
        replace H : ((corebankref04_Civil.f kj2 a1).bind fun bt132 => (some (wrap64 ((wrap64 ((wrap64 ((wrap64 (360 * (wrap64 (bt132.1 - t129)))) + (wrap64 (30 * (wrap64 (bt132.2.1 - t130)))))) + (mn bt132.2.2 30))) - (mn t131 30))))) = some r := H
        have A8 := Aside0.mk A80
        clear A80
        replace H := Option.bind_eq_some_iff.mp H
        obtain ⟨⟨t132, t133, t134⟩, A90, H⟩ := H
        replace H : (some (wrap64 ((wrap64 ((wrap64 ((wrap64 (360 * (wrap64 (t132 - t129)))) + (wrap64 (30 * (wrap64 (t133 - t130)))))) + (mn t134 30))) - (mn t131 30)))) = some r := H
        have A9 := Aside0.mk A90
        clear A90
        obtain ⟨ji10, hji10⟩ : ∃ j_ : Int, (mn t134 30) = j_ := ⟨_, rfl⟩
        replace H : (some (wrap64 ((wrap64 ((wrap64 ((wrap64 (360 * (wrap64 (t132 - t129)))) + (wrap64 (30 * (wrap64 (t133 - t130)))))) + (ji10))) - (mn t131 30)))) = some r := by first | (rw [hji10] at H; exact H) | (simp only [hji10] at H ⊢; exact H)
        (try rw [hji10] at A8)
        (try rw [hji10] at A9)
        (try (have hji10h : ji10 ≤ 30 := by (rw [← hji10]; unfold mn; (repeat' split) <;> omega)))
        (try (have hji10g : ji10 ≤ 64 := by omega))
        have hji10_ : (if 30 < t134 then 30 else t134) = ji10 := hji10
        obtain ⟨ji11, hji11⟩ : ∃ j_ : Int, (mn t131 30) = j_ := ⟨_, rfl⟩
        replace H : (some (wrap64 ((wrap64 ((wrap64 ((wrap64 (360 * (wrap64 (t132 - t129)))) + (wrap64 (30 * (wrap64 (t133 - t130)))))) + (ji10))) - (ji11)))) = some r := by first | (rw [hji11] at H; exact H) | (simp only [hji11] at H ⊢; exact H)
        (try rw [hji11] at A8)
        (try rw [hji11] at A9)
        (try (have hji11h : ji11 ≤ 30 := by (rw [← hji11]; unfold mn; (repeat' split) <;> omega)))
        (try (have hji11g : ji11 ≤ 64 := by omega))
        have hji11_ : (if 30 < t131 then 30 else t131) = ji11 := hji11
        obtain rfl := Option.some.inj H
        go_wp2_with (first | ((with_reducible refine gate_callee (f := 82) rfl ?_); refine goesL_ (some 21) rfl rfl Try.func82 (by kernel_rfl) rfl #[.int .i64 a0] rfl zm ?_; (with_reducible refine (corebankref04_Civil.calls kj2 a0 t129 t130 t131 _ A8.out).mono ?_); rintro e w' ⟨rfl, ⟨nd, rfl⟩⟩; refine ⟨_, rfl, ?_⟩) | ((with_reducible refine gate_callee (f := 82) rfl ?_); refine goesL_ (some 27) rfl rfl Try.func82 (by kernel_rfl) rfl #[.int .i64 a1] rfl zm ?_; (with_reducible refine (corebankref04_Civil.calls kj2 a1 t132 t133 t134 _ A9.out).mono ?_); rintro e w' ⟨rfl, ⟨nd, rfl⟩⟩; refine ⟨_, rfl, ?_⟩))
        go_ret
        exact ⟨by first | rfl | (simp [errW_none, errW_some] <;> rfl) | (simp only [← hji10, ← hji11]; first | rfl | (simp [errW_none, errW_some] <;> rfl)) | (simp [*, errW_none, errW_some] <;> rfl), hq HB⟩

end Go.Proofs.Ytlmabdiodopidaa.P
end
section
set_option linter.unusedVariables false
set_option linter.unusedSimpArgs false
namespace Go.Proofs.Ytlmabdiodopidaa.P
open Go.Proofs.Ytlmabdiodopidaa.G
attribute [local go_sem high] un_not64 un_noti run_add64
open Go.RowKit Go.Proofs.YtlmabdiodopidaaW.PrintWords Go.Proofs.YtlmabdiodopidaaW.PrintLast Go.Proofs.YtlmabdiodopidaaW.PrintMore
attribute [local go_sem] max2_int min2_int max_two min_two max_three min_three max_four min_four   -- for this text's walks alone
set_option linter.unusedVariables false
set_option linter.unusedSimpArgs false

attribute [local go_sem high] eqA66
/-! ### corebankref06_Weight: function 59 -/
def corebankref06_Weight.f (k : Nat) (a0 : Int) (a1 : Int) : Option (Int) := (corebankref04_Valid.f a1).bind fun t135 => (if t135 = true then (if a0 = 1 then (some 4453) else (if a0 = 2 then (some 4392) else (if a0 = 3 then ((corebankref04_Civil.f k a1).bind fun bt136 => ((corebankref04_Leap.f bt136.1).bind fun t139 => (if t139 = true then (some 4380) else (some 4392)))) else (if a0 = 4 then ((corebankref06_Thirty.f k a1 (wrap64 (a1 + 1))).bind fun t140 => (some (wrap64 (4453 * t140)))) else (some 0))))) else (some 0))
theorem corebankref06_Weight.mono : ∀ a0 a1 k, LeO (corebankref06_Weight.f k a0 a1) (corebankref06_Weight.f (k + 1) a0 a1) := by
  intro a0 a1 k
  unfold corebankref06_Weight.f
  repeat' first
      | (with_reducible exact corebankref04_Civil.mono _ _)
      | (with_reducible exact corebankref06_Thirty.mono _ _ _)
      | (with_reducible exact LeO.refl _)
      | (with_reducible exact LeO.none _)
      | (with_reducible refine LeO.ite ?_ ?_)
      | (with_reducible refine LeO.bind ?_ (fun _ => ?_))
      | exact corebankref04_Civil.mono _ _
      | exact corebankref06_Thirty.mono _ _ _
      | exact LeO.none _
      | refine LeO.ite ?_ ?_
      | refine LeO.bind ?_ (fun _ => ?_)
set_option maxHeartbeats 8000000 in
set_option maxRecDepth 100000 in
theorem corebankref06_Weight.calls (k : Nat) (a0 : Int) (a1 : Int) (r : Int) (w : World) (h : corebankref06_Weight.f k a0 a1 = some r) :
    Calls Try.prog 59 #[.int .i64 a0, .int .i64 a1] w fun e w' => e = .returned (.int .i64 r) ∧ Below w.heap.size w w' := by
  have HB := Aside0.mk (Below.refl w.heap.size w)
  have H : ((corebankref04_Valid.f a1).bind fun t135 => (if t135 = true then (if a0 = 1 then (some 4453) else (if a0 = 2 then (some 4392) else (if a0 = 3 then ((corebankref04_Civil.f k a1).bind fun bt136 => ((corebankref04_Leap.f bt136.1).bind fun t139 => (if t139 = true then (some 4380) else (some 4392)))) else (if a0 = 4 then ((corebankref06_Thirty.f k a1 (wrap64 (a1 + 1))).bind fun t140 => (some (wrap64 (4453 * t140)))) else (some 0))))) else (some 0))) = some r := h
  clear h
  replace H := Option.bind_eq_some_iff.mp H
  obtain ⟨t135, A30, H⟩ := H
  replace H : (if t135 = true then (if a0 = 1 then (some 4453) else (if a0 = 2 then (some 4392) else (if a0 = 3 then ((corebankref04_Civil.f k a1).bind fun bt136 => ((corebankref04_Leap.f bt136.1).bind fun t139 => (if t139 = true then (some 4380) else (some 4392)))) else (if a0 = 4 then ((corebankref06_Thirty.f k a1 (wrap64 (a1 + 1))).bind fun t140 => (some (wrap64 (4453 * t140)))) else (some 0))))) else (some 0)) = some r := H
  have A3 := Aside0.mk A30
  clear A30
  by_cases c4 : t135 = true
  · subst c4
    have H1 : (if a0 = 1 then (some 4453) else (if a0 = 2 then (some 4392) else (if a0 = 3 then ((corebankref04_Civil.f k a1).bind fun bt136 => ((corebankref04_Leap.f bt136.1).bind fun t139 => (if t139 = true then (some 4380) else (some 4392)))) else (if a0 = 4 then ((corebankref06_Thirty.f k a1 (wrap64 (a1 + 1))).bind fun t140 => (some (wrap64 (4453 * t140)))) else (some 0))))) = some r := by rw [if_pos rfl] at H; exact H
    clear H
    have H := H1
    clear H1
    by_cases c5 : a0 = 1
    · rw [if_pos c5] at H
      have c5b0 : (a0 == 1) = true := beq_iff_eq.mpr c5
      have c5b1 : (a0 != 1) = false := bne_eq_false_iff_eq.mpr c5
      clear c5
      obtain rfl := Option.some.inj H
      go_enter Try.func59, Try.ntmps59
      go_wp2_with (first | ((with_reducible refine gate_callee (f := 55) rfl ?_); refine goesL_ (some 9) rfl rfl Try.func55 (by kernel_rfl) rfl #[.int .i64 a1] rfl zm ?_; (with_reducible refine (corebankref04_Valid.calls a1 true _ A3.out).mono ?_); rintro e w' ⟨rfl, ⟨nd, rfl⟩⟩; refine ⟨_, rfl, ?_⟩))
      go_ret
      exact ⟨by first | rfl | (simp [errW_none, errW_some] <;> rfl) | (simp [*, errW_none, errW_some] <;> rfl), hq HB⟩
    · rw [if_neg c5] at H
      have c5b0 : (a0 == 1) = false := beq_eq_false_iff_ne.mpr c5
      have c5b1 : (a0 != 1) = true := bne_iff_ne.mpr c5
      by_cases c6 : a0 = 2
      · rw [if_pos c6] at H
        have c6b0 : (a0 == 2) = true := beq_iff_eq.mpr c6
        have c6b1 : (a0 != 2) = false := bne_eq_false_iff_eq.mpr c6
        clear c6
        obtain rfl := Option.some.inj H
        go_enter Try.func59, Try.ntmps59
        go_wp2_with (first | ((with_reducible refine gate_callee (f := 55) rfl ?_); refine goesL_ (some 9) rfl rfl Try.func55 (by kernel_rfl) rfl #[.int .i64 a1] rfl zm ?_; (with_reducible refine (corebankref04_Valid.calls a1 true _ A3.out).mono ?_); rintro e w' ⟨rfl, ⟨nd, rfl⟩⟩; refine ⟨_, rfl, ?_⟩))
        go_ret
        exact ⟨by first | rfl | (simp [errW_none, errW_some] <;> rfl) | (simp [*, errW_none, errW_some] <;> rfl), hq HB⟩
      · rw [if_neg c6] at H
        have c6b0 : (a0 == 2) = false := beq_eq_false_iff_ne.mpr c6
        have c6b1 : (a0 != 2) = true := bne_iff_ne.mpr c6
        by_cases c7 : a0 = 3
        · rw [if_pos c7] at H
          have c7b0 : (a0 == 3) = true := beq_iff_eq.mpr c7
          have c7b1 : (a0 != 3) = false := bne_eq_false_iff_eq.mpr c7
          clear c7
          replace H := Option.bind_eq_some_iff.mp H
          obtain ⟨⟨t136, t137, t138⟩, A80, H⟩ := H
          replace H : ((corebankref04_Leap.f t136).bind fun t139 => (if t139 = true then (some 4380) else (some 4392))) = some r := H
          have A8 := Aside0.mk A80
          clear A80
          replace H := Option.bind_eq_some_iff.mp H
          obtain ⟨t139, A90, H⟩ := H
          replace H : (if t139 = true then (some 4380) else (some 4392)) = some r := H
          have A9 := Aside0.mk A90
          clear A90
          by_cases c10 : t139 = true
          · subst c10
            have H1 : (some 4380) = some r := by rw [if_pos rfl] at H; exact H
            clear H
            have H := H1
            clear H1
            obtain rfl := Option.some.inj H
            go_enter Try.func59, Try.ntmps59
            go_wp2_with (first | ((with_reducible refine gate_callee (f := 55) rfl ?_); refine goesL_ (some 9) rfl rfl Try.func55 (by kernel_rfl) rfl #[.int .i64 a1] rfl zm ?_; (with_reducible refine (corebankref04_Valid.calls a1 true _ A3.out).mono ?_); rintro e w' ⟨rfl, ⟨nd, rfl⟩⟩; refine ⟨_, rfl, ?_⟩) | ((with_reducible refine gate_callee (f := 82) rfl ?_); refine goesL_ (some 20) rfl rfl Try.func82 (by kernel_rfl) rfl #[.int .i64 a1] rfl zm ?_; (with_reducible refine (corebankref04_Civil.calls k a1 t136 t137 t138 _ A8.out).mono ?_); rintro e w' ⟨rfl, ⟨nd, rfl⟩⟩; refine ⟨_, rfl, ?_⟩) | ((with_reducible refine gate_callee (f := 83) rfl ?_); refine goesL_ (some 25) rfl rfl Try.func83 (by kernel_rfl) rfl #[.int .i64 t136] rfl zm ?_; (with_reducible refine (corebankref04_Leap.calls t136 true _ A9.out).mono ?_); rintro e w' ⟨rfl, ⟨nd, rfl⟩⟩; refine ⟨_, rfl, ?_⟩))
            go_ret
            exact ⟨by first | rfl | (simp [errW_none, errW_some] <;> rfl) | (simp [*, errW_none, errW_some] <;> rfl), hq HB⟩
          · replace c10 := Bool.eq_false_iff.mpr c10
            subst c10
            have H1 : (some 4392) = some r := by rw [if_neg (show ¬ (false = true) by decide)] at H; exact H
            clear H
            have H := H1
            clear H1
            obtain rfl := Option.some.inj H
            go_enter Try.func59, Try.ntmps59
            go_wp2_with (first | ((with_reducible refine gate_callee (f := 55) rfl ?_); refine goesL_ (some 9) rfl rfl Try.func55 (by kernel_rfl) rfl #[.int .i64 a1] rfl zm ?_; (with_reducible refine (corebankref04_Valid.calls a1 true _ A3.out).mono ?_); rintro e w' ⟨rfl, ⟨nd, rfl⟩⟩; refine ⟨_, rfl, ?_⟩) | ((with_reducible refine gate_callee (f := 82) rfl ?_); refine goesL_ (some 20) rfl rfl Try.func82 (by kernel_rfl) rfl #[.int .i64 a1] rfl zm ?_; (with_reducible refine (corebankref04_Civil.calls k a1 t136 t137 t138 _ A8.out).mono ?_); rintro e w' ⟨rfl, ⟨nd, rfl⟩⟩; refine ⟨_, rfl, ?_⟩) | ((with_reducible refine gate_callee (f := 83) rfl ?_); refine goesL_ (some 25) rfl rfl Try.func83 (by kernel_rfl) rfl #[.int .i64 t136] rfl zm ?_; (with_reducible refine (corebankref04_Leap.calls t136 false _ A9.out).mono ?_); rintro e w' ⟨rfl, ⟨nd, rfl⟩⟩; refine ⟨_, rfl, ?_⟩))
            go_ret
            exact ⟨by first | rfl | (simp [errW_none, errW_some] <;> rfl) | (simp [*, errW_none, errW_some] <;> rfl), hq HB⟩
        · rw [if_neg c7] at H
          have c7b0 : (a0 == 3) = false := beq_eq_false_iff_ne.mpr c7
          have c7b1 : (a0 != 3) = true := bne_iff_ne.mpr c7
          by_cases c11 : a0 = 4
          · rw [if_pos c11] at H
            have c11b0 : (a0 == 4) = true := beq_iff_eq.mpr c11
            have c11b1 : (a0 != 4) = false := bne_eq_false_iff_eq.mpr c11
            clear c11
            replace H := Option.bind_eq_some_iff.mp H
            obtain ⟨t140, A120, H⟩ := H
            replace H : (some (wrap64 (4453 * t140))) = some r := H
            have A12 := Aside0.mk A120
            clear A120
            obtain rfl := Option.some.inj H
            go_enter Try.func59, Try.ntmps59
            go_wp2_with (first | ((with_reducible refine gate_callee (f := 55) rfl ?_); refine goesL_ (some 9) rfl rfl Try.func55 (by kernel_rfl) rfl #[.int .i64 a1] rfl zm ?_; (with_reducible refine (corebankref04_Valid.calls a1 true _ A3.out).mono ?_); rintro e w' ⟨rfl, ⟨nd, rfl⟩⟩; refine ⟨_, rfl, ?_⟩) | ((with_reducible refine gate_callee (f := 84) rfl ?_); refine goesL_ (some 31) rfl rfl Try.func84 (by kernel_rfl) rfl #[.int .i64 a1, .int .i64 (wrap64 (a1 + 1))] rfl zm ?_; (with_reducible refine (corebankref06_Thirty.calls k a1 (wrap64 (a1 + 1)) t140 _ A12.out).mono ?_); rintro e w13 ⟨rfl, hb⟩; refine ⟨_, rfl, ?_⟩; replace HB := bs HB hb; (try clear hb); (try clear hb2); (try clear hk); (try clear hi)))
            go_ret
            exact ⟨by first | rfl | (simp [errW_none, errW_some] <;> rfl) | (simp [*, errW_none, errW_some] <;> rfl), hq HB⟩
          · rw [if_neg c11] at H
            have c11b0 : (a0 == 4) = false := beq_eq_false_iff_ne.mpr c11
            have c11b1 : (a0 != 4) = true := bne_iff_ne.mpr c11
            obtain rfl := Option.some.inj H
            go_enter Try.func59, Try.ntmps59
            go_wp2_with (first | ((with_reducible refine gate_callee (f := 55) rfl ?_); refine goesL_ (some 9) rfl rfl Try.func55 (by kernel_rfl) rfl #[.int .i64 a1] rfl zm ?_; (with_reducible refine (corebankref04_Valid.calls a1 true _ A3.out).mono ?_); rintro e w' ⟨rfl, ⟨nd, rfl⟩⟩; refine ⟨_, rfl, ?_⟩))
            go_ret
            exact ⟨by first | rfl | (simp [errW_none, errW_some] <;> rfl) | (simp [*, errW_none, errW_some] <;> rfl), hq HB⟩
  · replace c4 := Bool.eq_false_iff.mpr c4
    subst c4
    have H1 : (some 0) = some r := by rw [if_neg (show ¬ (false = true) by decide)] at H; exact H
    clear H
    have H := H1
    clear H1
    obtain rfl := Option.some.inj H
    go_enter Try.func59, Try.ntmps59
    go_wp2_with (first | ((with_reducible refine gate_callee (f := 55) rfl ?_); refine goesL_ (some 9) rfl rfl Try.func55 (by kernel_rfl) rfl #[.int .i64 a1] rfl zm ?_; (with_reducible refine (corebankref04_Valid.calls a1 false _ A3.out).mono ?_); rintro e w' ⟨rfl, ⟨nd, rfl⟩⟩; refine ⟨_, rfl, ?_⟩))
    go_ret
    exact ⟨by first | rfl | (simp [errW_none, errW_some] <;> rfl) | (simp [*, errW_none, errW_some] <;> rfl), hq HB⟩

/-! ### corebankref27_Same: function 35 -/
def corebankref27_Same.l0 : Nat → List (S66) → List (S66) → Int → Option (Bool)
  | 0, _, _, _ => none
  | k + 1, x0, x1, x5 => if x5 < (x0.length : Int) then (if 0 ≤ x5 then (if x5 < (x1.length : Int) then (if (!(((rd_T66 x0 x5).f0) == ((rd_T66 x1 x5).f0)) || (!(((rd_T66 x0 x5).f1) == ((rd_T66 x1 x5).f1)) || (!(((rd_T66 x0 x5).f2) == ((rd_T66 x1 x5).f2)) || ((!(((rd_T66 x0 x5).f3.f0) == ((rd_T66 x1 x5).f3.f0)) || (!(((rd_T66 x0 x5).f3.f1) == ((rd_T66 x1 x5).f3.f1)))) || ((!(((rd_T66 x0 x5).f4.f0) == ((rd_T66 x1 x5).f4.f0)) || (!(((rd_T66 x0 x5).f4.f1) == ((rd_T66 x1 x5).f4.f1))))))))) = true then (some false) else (corebankref27_Same.l0 k x0 x1 (wrap64 (x5 + 1)))) else (none)) else (none)) else (some true)
def corebankref27_Same.f (k : Nat) (l0 : List (S66)) (l1 : List (S66)) : Option (Bool) := if (l0.length : Int) = (l1.length : Int) then (corebankref27_Same.l0 k l0 l1 0) else (some false)
theorem corebankref27_Same.mono_l : ∀ k, (∀ y0 y1 y2, LeO (corebankref27_Same.l0 k y0 y1 y2) (corebankref27_Same.l0 (k + 1) y0 y1 y2))
  | 0 => fun _ _ _ r h => by simp [corebankref27_Same.l0] at h
  | k + 1 => by
    have ih0 := corebankref27_Same.mono_l k
    · intro y0 y1 y2
      unfold corebankref27_Same.l0
      repeat' first
      | (with_reducible exact ih0 _ _ _)
      | (with_reducible exact LeO.refl _)
      | (with_reducible exact LeO.none _)
      | (with_reducible refine LeO.ite ?_ ?_)
      | (with_reducible refine LeO.bind ?_ (fun _ => ?_))
      | exact ih0 _ _ _
      | exact LeO.none _
      | refine LeO.ite ?_ ?_
      | refine LeO.bind ?_ (fun _ => ?_)
theorem corebankref27_Same.mono : ∀ a0 a1 k, LeO (corebankref27_Same.f k a0 a1) (corebankref27_Same.f (k + 1) a0 a1) := by
  intro a0 a1 k
  have ih0 := corebankref27_Same.mono_l k
  unfold corebankref27_Same.f
  repeat' first
      | (with_reducible exact ih0 _ _ _)
      | (with_reducible exact LeO.refl _)
      | (with_reducible exact LeO.none _)
      | (with_reducible refine LeO.ite ?_ ?_)
      | (with_reducible refine LeO.bind ?_ (fun _ => ?_))
      | exact ih0 _ _ _
      | exact LeO.none _
      | refine LeO.ite ?_ ?_
      | refine LeO.bind ?_ (fun _ => ?_)
set_option maxHeartbeats 8000000 in
set_option maxRecDepth 100000 in
theorem corebankref27_Same.calls (k : Nat) (A0 : Option Addr) (c0 : Nat) (l0 : List (S66)) (A1 : Option Addr) (c1 : Nat) (l1 : List (S66)) (r : Bool) (w : World) (hr0 : Kd.C k66 w A0 l0.length l0) (hc0 : l0.length ≤ c0) (hr1 : Kd.C k66 w A1 l1.length l1) (hc1 : l1.length ≤ c1) (h : corebankref27_Same.f k l0 l1 = some r) :
    Calls Try.prog 35 #[.slice A0 l0.length c0, .slice A1 l1.length c1] w fun e w' => e = .returned (.bool r) ∧ Drawn0 w w' := by
  have hu66 := Try.underlying66
  have HR0 := Aside0.mk hr0
  have HC0 := Aside0.mk hc0
  clear hr0 hc0
  have HR1 := Aside0.mk hr1
  have HC1 := Aside0.mk hc1
  clear hr1 hc1
  have H : (if (l0.length : Int) = (l1.length : Int) then (corebankref27_Same.l0 k l0 l1 0) else (some false)) = some r := h
  clear h
  by_cases c3 : (l0.length : Int) = (l1.length : Int)
  · rw [if_pos c3] at H
    have c3b0 : ((l0.length : Int) == (l1.length : Int)) = true := beq_iff_eq.mpr c3
    have c3b1 : ((l0.length : Int) != (l1.length : Int)) = false := bne_eq_false_iff_eq.mpr c3
    have c3b2 : (l0.length == l1.length) = true := by first | simpa using c3 | (simp at c3 ⊢; omega)
    clear c3
    have H' := Aside0.mk H
    clear H
    go_enter Try.func35, Try.ntmps35
    go_wp2
    repeat (go_quiet (fail); try go_wp2)
    go_loopg [5] k (fun kq v5 w' => ∃ (x5_1 : Int), v5 = .int .i64 x5_1 ∧ Aside0 (corebankref27_Same.l0 kq l0 l1 x5_1 = some r) ∧ Aside0 (kq ≤ k) ∧ Drawn0 w w')
    case atStart => exact ⟨(0), (by first | rfl | (simp; done) | (simp [*]; done)), H', ⟨Nat.le_refl _⟩, by repeat (first | exact Drawn0.refl _ | apply Drawn0.step)⟩
    case round =>
      clear H'
      try clear c1
      try clear p2
      try clear c3
      try clear c3b0
      try clear c3b1
      try clear c3b2
      obtain ⟨x5_1, rfl, HA, HK1, ⟨m1, rfl⟩⟩ := hrel
      cases gk with
      | zero => exact absurd HA.out (by simp [corebankref27_Same.l0])
      | succ k1 =>
        have H := HA.out
        clear HA
        simp only [corebankref27_Same.l0] at H
        by_cases c4 : x5_1 < (l0.length : Int)
        · rw [if_pos c4] at H
          have c4b0 : decide (x5_1 < (l0.length : Int)) = true := decide_eq_true c4
          clear c4
          by_cases c5 : 0 ≤ x5_1
          · rw [if_pos c5] at H
            have c5b0 : decide (0 ≤ x5_1) = true := decide_eq_true c5
            clear c5
            by_cases c6 : x5_1 < (l1.length : Int)
            · rw [if_pos c6] at H
              have c6b0 : decide (x5_1 < (l1.length : Int)) = true := decide_eq_true c6
              clear c6
              by_cases c7 : (!(((rd_T66 l0 x5_1).f0) == ((rd_T66 l1 x5_1).f0)) || (!(((rd_T66 l0 x5_1).f1) == ((rd_T66 l1 x5_1).f1)) || (!(((rd_T66 l0 x5_1).f2) == ((rd_T66 l1 x5_1).f2)) || ((!(((rd_T66 l0 x5_1).f3.f0) == ((rd_T66 l1 x5_1).f3.f0)) || (!(((rd_T66 l0 x5_1).f3.f1) == ((rd_T66 l1 x5_1).f3.f1)))) || ((!(((rd_T66 l0 x5_1).f4.f0) == ((rd_T66 l1 x5_1).f4.f0)) || (!(((rd_T66 l0 x5_1).f4.f1) == ((rd_T66 l1 x5_1).f4.f1))))))))) = true
              · rw [if_pos c7] at H
                have c7b0 : (!(((rd_T66 l0 x5_1).f0) == ((rd_T66 l1 x5_1).f0)) || (!(((rd_T66 l0 x5_1).f1) == ((rd_T66 l1 x5_1).f1)) || (!(((rd_T66 l0 x5_1).f2) == ((rd_T66 l1 x5_1).f2)) || ((!(((rd_T66 l0 x5_1).f3.f0) == ((rd_T66 l1 x5_1).f3.f0)) || (!(((rd_T66 l0 x5_1).f3.f1) == ((rd_T66 l1 x5_1).f3.f1)))) || ((!(((rd_T66 l0 x5_1).f4.f0) == ((rd_T66 l1 x5_1).f4.f0)) || (!(((rd_T66 l0 x5_1).f4.f1) == ((rd_T66 l1 x5_1).f4.f1))))))))) = true := c7
                clear c7
                obtain rfl := Option.some.inj H
                have p141 : 0 ≤ (x5_1 : Int) := of_decide_eq_true (by first | (with_reducible assumption) | assumption)
                have q141 : x5_1 < (l0.length : Int) := of_decide_eq_true (by first | (with_reducible assumption) | assumption)
                obtain ⟨ad141, e141, hx141_0, hx141_1, hx141_2, hx141_3, hx141_4, hx141_5, hx141_6⟩ := at_T66 HR0.out x5_1 p141 q141
                cases e141
                replace p141 := eq_true p141
                replace q141 := eq_true q141
                have p142 : 0 ≤ (x5_1 : Int) := of_decide_eq_true (by first | (with_reducible assumption) | assumption)
                have q142 : x5_1 < (l1.length : Int) := of_decide_eq_true (by first | (with_reducible assumption) | assumption)
                obtain ⟨ad142, e142, hx142_0, hx142_1, hx142_2, hx142_3, hx142_4, hx142_5, hx142_6⟩ := at_T66 HR1.out x5_1 p142 q142
                cases e142
                replace p142 := eq_true p142
                replace q142 := eq_true q142
                go_wp2
                repeat (go_quiet (fail); try go_wp2)
                go_ret
                exact ⟨by first | rfl | (simp; done) | (simp [*]; done), by repeat (first | exact Drawn0.refl _ | apply Drawn0.step)⟩
              · rw [if_neg c7] at H
                have c7b0 : (!(((rd_T66 l0 x5_1).f0) == ((rd_T66 l1 x5_1).f0)) || (!(((rd_T66 l0 x5_1).f1) == ((rd_T66 l1 x5_1).f1)) || (!(((rd_T66 l0 x5_1).f2) == ((rd_T66 l1 x5_1).f2)) || ((!(((rd_T66 l0 x5_1).f3.f0) == ((rd_T66 l1 x5_1).f3.f0)) || (!(((rd_T66 l0 x5_1).f3.f1) == ((rd_T66 l1 x5_1).f3.f1)))) || ((!(((rd_T66 l0 x5_1).f4.f0) == ((rd_T66 l1 x5_1).f4.f0)) || (!(((rd_T66 l0 x5_1).f4.f1) == ((rd_T66 l1 x5_1).f4.f1))))))))) = false := by simpa using c7
                clear c7
                have H' := Aside0.mk H
                clear H
                have p141 : 0 ≤ (x5_1 : Int) := of_decide_eq_true (by first | (with_reducible assumption) | assumption)
                have q141 : x5_1 < (l0.length : Int) := of_decide_eq_true (by first | (with_reducible assumption) | assumption)
                obtain ⟨ad141, e141, hx141_0, hx141_1, hx141_2, hx141_3, hx141_4, hx141_5, hx141_6⟩ := at_T66 HR0.out x5_1 p141 q141
                cases e141
                replace p141 := eq_true p141
                replace q141 := eq_true q141
                have p142 : 0 ≤ (x5_1 : Int) := of_decide_eq_true (by first | (with_reducible assumption) | assumption)
                have q142 : x5_1 < (l1.length : Int) := of_decide_eq_true (by first | (with_reducible assumption) | assumption)
                obtain ⟨ad142, e142, hx142_0, hx142_1, hx142_2, hx142_3, hx142_4, hx142_5, hx142_6⟩ := at_T66 HR1.out x5_1 p142 q142
                cases e142
                replace p142 := eq_true p142
                replace q142 := eq_true q142
                go_wp2
                repeat (go_quiet (fail); try go_wp2)
                go_roundg k1
                case measure => have := HK1.out; omega
                case rel => exact ⟨(wrap64 (x5_1 + 1)), (by first | rfl | (simp; done) | (simp [*]; done)), H', ⟨by have := HK1.out; omega⟩, by repeat (first | exact Drawn0.refl _ | apply Drawn0.step)⟩
            · rw [if_neg c6] at H
              exact absurd H (by simp)
          · rw [if_neg c5] at H
            exact absurd H (by simp)
        · rw [if_neg c4] at H
          have c4b0 : decide (x5_1 < (l0.length : Int)) = false := decide_eq_false c4
          clear c4
          obtain rfl := Option.some.inj H
          go_wp2
          repeat (go_quiet (fail); try go_wp2)
          go_ret
          exact ⟨by first | rfl | (simp; done) | (simp [*]; done), by repeat (first | exact Drawn0.refl _ | apply Drawn0.step)⟩
  · rw [if_neg c3] at H
    have c3b0 : ((l0.length : Int) == (l1.length : Int)) = false := beq_eq_false_iff_ne.mpr c3
    have c3b1 : ((l0.length : Int) != (l1.length : Int)) = true := bne_iff_ne.mpr c3
    have c3b2 : (l0.length == l1.length) = false := by first | simpa using c3 | (simp at c3 ⊢; omega)
    obtain rfl := Option.some.inj H
    go_enter Try.func35, Try.ntmps35
    go_wp2
    repeat (go_quiet (fail); try go_wp2)
    go_ret
    exact ⟨by first | rfl | (simp; done) | (simp [*]; done), by repeat (first | exact Drawn0.refl _ | apply Drawn0.step)⟩

-- NOT PRINTED: function 39 (api_Tier)

end Go.Proofs.Ytlmabdiodopidaa.P
end
section
set_option linter.unusedVariables false
set_option linter.unusedSimpArgs false
namespace Go.Proofs.Ytlmabdiodopidaa.P
open Go.Proofs.Ytlmabdiodopidaa.G
attribute [local go_sem high] un_not64 un_noti run_add64
open Go.RowKit Go.Proofs.YtlmabdiodopidaaW.PrintWords Go.Proofs.YtlmabdiodopidaaW.PrintLast Go.Proofs.YtlmabdiodopidaaW.PrintMore
attribute [local go_sem] max2_int min2_int max_two min_two max_three min_three max_four min_four   -- for this text's walks alone
set_option linter.unusedVariables false
set_option linter.unusedSimpArgs false

/-! ### corebankref01_Scale: function 46 -/
def corebankref01_Scale.f (k : Nat) (a0_0 : Int) (a0_1 : Int) (a1 : Int) : Option (Int × Int × Int) := (corebankref01_Split.f a0_0 a0_1).bind fun bt354 => ((corebankref01_size.f a1).bind fun t358 => ((corebankref01_times.f k bt354.2.1 bt354.2.2 t358).bind fun bt359 => ((corebankref01_Join.f (bt354.1 != (decide (a1 < 0))) bt359.1 bt359.2.1).bind fun bt363 => (if bt359.2.2 = true then (if bt363.2.2 = true then (some (bt363.1, bt363.2.1, 0)) else (some (0, 0, 6))) else (some (0, 0, 6))))))
theorem corebankref01_Scale.mono : ∀ a0 a1 a2 k, LeO (corebankref01_Scale.f k a0 a1 a2) (corebankref01_Scale.f (k + 1) a0 a1 a2) := by
  intro a0 a1 a2 k
  unfold corebankref01_Scale.f
  repeat' first
      | (with_reducible exact corebankref01_times.mono _ _ _ _)
      | (with_reducible exact LeO.refl _)
      | (with_reducible exact LeO.none _)
      | (with_reducible refine LeO.ite ?_ ?_)
      | (with_reducible refine LeO.bind ?_ (fun _ => ?_))
      | exact corebankref01_times.mono _ _ _ _
      | exact LeO.none _
      | refine LeO.ite ?_ ?_
      | refine LeO.bind ?_ (fun _ => ?_)
def corebankref01_Scale.T2 : Bool × List (List Nat × List Nat) := (true, [([], []), ([], []), ([1], [1]), ([0, 2, 2], [0, 2]), ([3], [3]), ([4], [4]), ([4], [4]), ([], []), ([7, 5, 3, 0, 1, 2, 3, 4, 5, 7], [5, 7]), ([6, 8, 0, 1, 2, 3, 4, 5, 6, 7, 8], [6])])
def corebankref01_Scale.B2 : List Nat := [0, 0, 2, 7, 15, 31, 31, 0, 191, 511]
theorem corebankref01_Scale.tab2 : rtab .any (opsOf Try.f46 2) = corebankref01_Scale.T2 := by kernel_rfl
theorem corebankref01_Scale.bits2 : waitsOk corebankref01_Scale.T2.2 corebankref01_Scale.B2 = true := by kernel_rfl
set_option maxHeartbeats 8000000 in
set_option maxRecDepth 100000 in
theorem corebankref01_Scale.calls (k : Nat) (a0_0 : Int) (a0_1 : Int) (a1 : Int) (r1 : Int) (r2 : Int) (r3 : Int) (w : World) (h : corebankref01_Scale.f k a0_0 a0_1 a1 = some (r1, r2, r3)) :
    Calls Try.prog 46 #[.agg #[.int .i64 a0_0, .int .u64 a0_1], .int .i64 a1] w fun e w' => e = .returned (.tuple #[.agg #[.int .i64 r1, .int .u64 r2], .int .i64 r3]) ∧ Below w.heap.size w w' := by
  have hu35 := Try.underlying35
  have hu89 := Try.underlying89
  have HB := Aside0.mk (Below.refl w.heap.size w)
  have H : ((corebankref01_Split.f a0_0 a0_1).bind fun bt354 => ((corebankref01_size.f a1).bind fun t358 => ((corebankref01_times.f k bt354.2.1 bt354.2.2 t358).bind fun bt359 => ((corebankref01_Join.f (bt354.1 != (decide (a1 < 0))) bt359.1 bt359.2.1).bind fun bt363 => (if bt359.2.2 = true then (if bt363.2.2 = true then (some (bt363.1, bt363.2.1, 0)) else (some (0, 0, 6))) else (some (0, 0, 6))))))) = some (r1, r2, r3) := h
  clear h
  replace H := Option.bind_eq_some_iff.mp H
  obtain ⟨⟨t354, t355, t356⟩, A30, H⟩ := H
  replace H : ((corebankref01_size.f a1).bind fun t358 => ((corebankref01_times.f k t355 t356 t358).bind fun bt359 => ((corebankref01_Join.f (t354 != (decide (a1 < 0))) bt359.1 bt359.2.1).bind fun bt363 => (if bt359.2.2 = true then (if bt363.2.2 = true then (some (bt363.1, bt363.2.1, 0)) else (some (0, 0, 6))) else (some (0, 0, 6)))))) = some (r1, r2, r3) := H
  have A3 := Aside0.mk A30
  clear A30
  replace H := Option.bind_eq_some_iff.mp H
  obtain ⟨t358, A40, H⟩ := H
  replace H : ((corebankref01_times.f k t355 t356 t358).bind fun bt359 => ((corebankref01_Join.f (t354 != (decide (a1 < 0))) bt359.1 bt359.2.1).bind fun bt363 => (if bt359.2.2 = true then (if bt363.2.2 = true then (some (bt363.1, bt363.2.1, 0)) else (some (0, 0, 6))) else (some (0, 0, 6))))) = some (r1, r2, r3) := H
  have A4 := Aside0.mk A40
  clear A40
  replace H := Option.bind_eq_some_iff.mp H
  obtain ⟨⟨t359, t360, t361⟩, A50, H⟩ := H
  replace H : ((corebankref01_Join.f (t354 != (decide (a1 < 0))) t359 t360).bind fun bt363 => (if t361 = true then (if bt363.2.2 = true then (some (bt363.1, bt363.2.1, 0)) else (some (0, 0, 6))) else (some (0, 0, 6)))) = some (r1, r2, r3) := H
  have A5 := Aside0.mk A50
  clear A50
  replace H := Option.bind_eq_some_iff.mp H
  obtain ⟨⟨t363, t364, t365⟩, A60, H⟩ := H
  replace H : (if t361 = true then (if t365 = true then (some (t363, t364, 0)) else (some (0, 0, 6))) else (some (0, 0, 6))) = some (r1, r2, r3) := H
  have A6 := Aside0.mk A60
  clear A60
  by_cases c7 : t361 = true
  · subst c7
    have H1 : (if t365 = true then (some (t363, t364, 0)) else (some (0, 0, 6))) = some (r1, r2, r3) := by rw [if_pos rfl] at H; exact H
    clear H
    have H := H1
    clear H1
    by_cases c8 : t365 = true
    · subst c8
      have H1 : (some (t363, t364, 0)) = some (r1, r2, r3) := by rw [if_pos rfl] at H; exact H
      clear H
      have H := H1
      clear H1
      simp only [Option.some.injEq, Prod.mk.injEq] at H
      obtain ⟨rfl, rfl, rfl⟩ := H
      go_enter Try.func46, Try.ntmps46
      try go_wp2_with (first | ((with_reducible refine gate_dst (N := 2) rfl ?_); refine box_event ?hg (N := 2) ?hd (cs := #[.int .i64 a0_0, .int .u64 a0_1]) (t := 35) ?hr ?_; (case hd => rfl); (case hg => rfl); (case hr => first | (go_simp; done) | (go_simp; rfl)); intro gb352 hg w9 hbox hb; have BK352 := Aside0.mk (hbox); have GW352 := ge HB hg; have GE352 := ge HB hg; replace HB := bs HB hb; clear hb hbox hg) | ((with_reducible refine gate_dst (N := 4) rfl ?_); refine box_event ?hg (N := 4) ?hd (cs := #[.int .i64 0, .int .u64 0]) (t := 35) ?hr ?_; (case hd => rfl); (case hg => rfl); (case hr => first | (go_simp; done) | (go_simp; rfl)); intro gb353 hg w10 hbox hb; have BK353 := Aside0.mk (hbox); have GW353 := ge HB hg; have GE353 := ge HB hg; have NB352_353 := nl BK352 hg; have NB353_352 := ng NB352_353; replace BK352 := bb BK352 hb; replace HB := bs HB hb; clear hb hbox hg; have hnb11 := NB352_353.out; have hnc11 := NB353_352.out; obtain ⟨hcz12_0, hcz12_1, hfz12_0, hfz12_1⟩ := cz2 BK352) | ((with_reducible refine gate_callee (f := 48) rfl ?_); refine goesL_ (some 14) rfl rfl Try.func48 (by kernel_rfl) rfl #[.agg #[.int .i64 a0_0, .int .u64 a0_1]] rfl zm ?_; (with_reducible refine (corebankref01_Split.calls a0_0 a0_1 t354 t355 t356 _ A3.out).mono ?_); rintro e w13 ⟨rfl, hb⟩; refine ⟨_, rfl, ?_⟩; replace BK352 := bb BK352 hb; replace BK353 := bb BK353 hb; replace HB := bs HB hb; (try clear hb); (try clear hb2); (try clear hk); (try clear hi)) | ((with_reducible refine gate_dst (N := 7) rfl ?_); refine box_event ?hg (N := 7) ?hd (cs := #[.int .u64 0, .int .u64 0]) (t := 89) ?hr ?_; (case hd => rfl); (case hg => rfl); (case hr => first | (go_simp; done) | (go_simp; rfl)); intro gb357 hg w14 hbox hb; have BK357 := Aside0.mk (hbox); have GW357 := ge HB hg; have GE357 := ge HB hg; have NB352_357 := nl BK352 hg; have NB357_352 := ng NB352_357; have NB353_357 := nl BK353 hg; have NB357_353 := ng NB353_357; replace BK352 := bb BK352 hb; replace BK353 := bb BK353 hb; replace HB := bs HB hb; clear hb hbox hg; have hnb15 := NB357_352.out; have hnc15 := NB352_357.out; have hnb16 := NB357_353.out; have hnc16 := NB353_357.out; obtain ⟨hcz17_0, hcz17_1, hfz17_0, hfz17_1⟩ := cz2 BK357))
      have n0_ : Aside0 (((w14.setCell ⟨gb357, 0, none⟩ (.int .u64 t355)).setCell ⟨gb357, 1, none⟩ (.int .u64 t356)).heap[gb352]? = some (.cells #[.int .i64 a0_0, .int .u64 a0_1] 35 (0, 0))) := ⟨bq BK352⟩
      have n1_ : Aside0 (((w14.setCell ⟨gb357, 0, none⟩ (.int .u64 t355)).setCell ⟨gb357, 1, none⟩ (.int .u64 t356)).heap[gb353]? = some (.cells #[.int .i64 0, .int .u64 0] 35 (0, 0))) := ⟨bq BK353⟩
      have n2_ : Aside0 (((w14.setCell ⟨gb357, 0, none⟩ (.int .u64 t355)).setCell ⟨gb357, 1, none⟩ (.int .u64 t356)).heap[gb357]? = some (.cells #[.int .u64 t355, .int .u64 t356] 89 (0, 0))) := ⟨bp BK357⟩
      have n3_ : Aside0 (Below w.heap.size w ((w14.setCell ⟨gb357, 0, none⟩ (.int .u64 t355)).setCell ⟨gb357, 1, none⟩ (.int .u64 t356))) := ⟨hq HB⟩
      (try clear BK352)
      (try clear BK353)
      (try clear BK357)
      (try clear HB)
      generalize ((w14.setCell ⟨gb357, 0, none⟩ (.int .u64 t355)).setCell ⟨gb357, 1, none⟩ (.int .u64 t356)) = w18 at n0_ n1_ n2_ n3_ ⊢
      have BK352 := n0_
      have BK353 := n1_
      have BK357 := n2_
      have HB := n3_
      clear n0_ n1_ n2_ n3_
      replace BK352 := bd1 BK352
      replace BK353 := bd1 BK353
      replace BK357 := bd1 BK357
      replace HB := hb1 HB
      refine start_ (n := 10) (S := fun w' => w'.cell? ⟨gb357, 0, none⟩ = some (.int .u64 t355) ∧ w'.cell? ⟨gb357, 1, none⟩ = some (.int .u64 t356)) (ds := []) #[false, false, false, false, false, false, false, false, false, false] (by kernel_rfl) rfl rfl ⟨(blk_cell BK357.out 0).trans rfl, (blk_cell BK357.out 1).trans rfl⟩ (fun hHeld => ?_); refine with_tabW corebankref01_Scale.tab2 corebankref01_Scale.bits2 (fun HT_ HW_ => ?_)
      generalize w18.drew = w19 at BK352 BK353 BK357 HB hHeld ⊢
      refine pz (i := 1) (N := some 19) #[false, true, false, false, false, false, false, false, false, false] rfl rfl (any_of HT_.out (by kernel_rfl)) (fun _ _ _ h => h) ?_
      refine tz2 (i := 0) (N := some 18) #[true, true, false, false, false, false, false, false, false, false] rfl rfl (take_ofW HT_.out HW_.out (by kernel_rfl)) (fun _ _ _ h => h) hHeld ?_
      refine join_ (σ := Nat) 2 #[true, true, true, true, true, true, true, true, false, false] (fun s_ => [(20, .int .u64 t358), (21, .tuple #[.agg #[.int .u64 t359, .int .u64 t360], .bool true]), (8, .pointer (some ⟨s_, 0, none⟩)), (17, .tuple #[.agg #[.int .u64 t359, .int .u64 t360], .bool true]), (22, .agg #[.int .u64 t359, .int .u64 t360]), (23, .bool true)]) (fun s_ w' => (w'.cell? ⟨gb357, 0, none⟩ = some (.int .u64 t355) ∧ w'.cell? ⟨gb357, 1, none⟩ = some (.int .u64 t356)) ∧ (w'.heap[gb352]? = some (.cells #[.int .i64 a0_0, .int .u64 a0_1] 35 (0, 0))) ∧ (w'.heap[gb353]? = some (.cells #[.int .i64 0, .int .u64 0] 35 (0, 0))) ∧ (w'.heap[gb357]? = some (.cells #[.int .u64 t355, .int .u64 t356] 89 (0, 0))) ∧ (w'.heap[s_]? = some (.cells #[.int .u64 0, .int .u64 0] 89 (0, 0))) ∧ (w.heap.size ≤ s_) ∧ (w.heap.size ≤ s_) ∧ (gb352 ≠ s_) ∧ (s_ ≠ gb352) ∧ (gb353 ≠ s_) ∧ (s_ ≠ gb353) ∧ (gb357 ≠ s_) ∧ (s_ ≠ gb357) ∧ (Below w.heap.size w w')) ?_ ?_
      rotate_left
      · intro hCont
        refine two_ (i := 2) (j := 7) (Ni := some 20) (Nj := some 8) #[true, true, true, false, false, false, false, false, false, false] #[true, true, false, false, false, false, false, true, false, false] rfl rfl rfl rfl (two_of HT_.out (by kernel_rfl)) (by decide) (by decide) (fun K hK => ?_) (fun K hK => ?_)
        · skip
          refine goes_ Try.func68 (by kernel_rfl) rfl #[.int .i64 a1] (by rfl) rfl rfl zm ?_
          with_reducible refine (corebankref01_size.calls a1 t358 _ A4.out).mono ?_
          rintro e w' ⟨rfl, ⟨nd, rfl⟩⟩
          refine ⟨_, rfl, ?_⟩
          refine hK.out _ _ ⟨(blk_cell BK357.out 0).trans rfl, (blk_cell BK357.out 1).trans rfl⟩ (fun hHeld => ?_)
          clear hK K
          refine norm_ (a' := ?_) ?_ ?_
          rotate_left
          · show Act.put _ (some 20) _ = _
            simp only [Act.put, List.setIfInBounds_toArray, List.set_cons_zero, List.set_cons_succ, i64_w, i32_w]
            rfl
          refine two_ (i := 3) (j := 7) (Ni := some 21) (Nj := some 8) #[true, true, true, true, false, false, false, false, false, false] #[true, true, true, false, false, false, false, true, false, false] rfl rfl rfl rfl (two_of HT_.out (by kernel_rfl)) (by decide) (by decide) (fun K hK => ?_) (fun K hK => ?_)
          · skip
            refine goes_ Try.func67 (by kernel_rfl) rfl #[.agg #[.int .u64 t355, .int .u64 t356], .int .u64 t358] (by rfl) rfl rfl zm ?_
            with_reducible refine (corebankref01_times.calls k t355 t356 t358 t359 t360 true _ A5.out).mono ?_
            rintro e w20 ⟨rfl, hb⟩
            refine ⟨_, rfl, ?_⟩
            replace BK352 := bb BK352 hb
            replace BK353 := bb BK353 hb
            replace BK357 := bb BK357 hb
            replace HB := bs HB hb
            (try clear hb)
            (try clear hb2)
            (try clear hk)
            (try clear hi)
            refine hK.out _ _ ⟨(blk_cell BK357.out 0).trans rfl, (blk_cell BK357.out 1).trans rfl⟩ (fun hHeld => ?_)
            clear hK K
            refine norm_ (a' := ?_) ?_ ?_
            rotate_left
            · show Act.put _ (some 21) _ = _
              simp only [Act.put, List.setIfInBounds_toArray, List.set_cons_zero, List.set_cons_succ, i64_w, i32_w]
              rfl
            refine pz (i := 4) (N := some 17) #[true, true, true, true, true, false, false, false, false, false] rfl rfl (any_of HT_.out (by kernel_rfl)) (fun _ _ _ h => h) ?_
            refine pz (i := 5) (N := some 22) #[true, true, true, true, true, true, false, false, false, false] rfl rfl (any_of HT_.out (by kernel_rfl)) (fun _ _ _ h => h) ?_
            refine pz (i := 6) (N := some 23) #[true, true, true, true, true, true, true, false, false, false] rfl rfl (any_of HT_.out (by kernel_rfl)) (fun _ _ _ h => h) ?_
            refine one_ (i := 7) (N := some 8) #[true, true, true, true, true, true, true, true, false, false] rfl rfl (one_of HT_.out (by kernel_rfl)) (by decide) (fun K hK => ?_)
            refine box_step ?hg (N := 8) ?hd (cs := #[.int .u64 0, .int .u64 0]) (t := 89) ?hr ?_; (case hd => rfl); (case hg => rfl); (case hr => first | (go_simp; done) | (go_simp; rfl))
            intro gb362 hg w21 hbox hb
            have BK362 := Aside0.mk (hbox)
            have GW362 := ge HB hg
            have GE362 := ge HB hg
            have NB352_362 := nl BK352 hg
            have NB362_352 := ng NB352_362
            have NB353_362 := nl BK353 hg
            have NB362_353 := ng NB353_362
            have NB357_362 := nl BK357 hg
            have NB362_357 := ng NB357_362
            replace BK352 := bb BK352 hb
            replace BK353 := bb BK353 hb
            replace BK357 := bb BK357 hb
            replace HB := bs HB hb
            clear hb hbox hg
            refine hK.out _ _ ⟨(blk_cell BK357.out 0).trans rfl, (blk_cell BK357.out 1).trans rfl⟩ (fun hHeld => ?_)
            clear hK K
            refine norm_ (a' := ?_) ?_ ?_
            rotate_left
            · show Act.put _ (some 8) _ = _
              simp only [Act.put, List.setIfInBounds_toArray, List.set_cons_zero, List.set_cons_succ, i64_w, i32_w]
              rfl
            exact norm_ (by simp only [putAll, Act.put, List.setIfInBounds_toArray, List.set_cons_zero, List.set_cons_succ]) (hCont (gb362) _ ⟨hHeld, (bq BK352), (bq BK353), (bq BK357), (bq BK362), GW362.out, GE362.out, NB352_362.out, NB362_352.out, NB353_362.out, NB362_353.out, NB357_362.out, NB362_357.out, (hq HB)⟩)
          · skip
            refine box_step ?hg (N := 8) ?hd (cs := #[.int .u64 0, .int .u64 0]) (t := 89) ?hr ?_; (case hd => rfl); (case hg => rfl); (case hr => first | (go_simp; done) | (go_simp; rfl))
            intro gb362 hg w20 hbox hb
            have BK362 := Aside0.mk (hbox)
            have GW362 := ge HB hg
            have GE362 := ge HB hg
            have NB352_362 := nl BK352 hg
            have NB362_352 := ng NB352_362
            have NB353_362 := nl BK353 hg
            have NB362_353 := ng NB353_362
            have NB357_362 := nl BK357 hg
            have NB362_357 := ng NB357_362
            replace BK352 := bb BK352 hb
            replace BK353 := bb BK353 hb
            replace BK357 := bb BK357 hb
            replace HB := bs HB hb
            clear hb hbox hg
            refine hK.out _ _ ⟨(blk_cell BK357.out 0).trans rfl, (blk_cell BK357.out 1).trans rfl⟩ (fun hHeld => ?_)
            clear hK K
            refine norm_ (a' := ?_) ?_ ?_
            rotate_left
            · show Act.put _ (some 8) _ = _
              simp only [Act.put, List.setIfInBounds_toArray, List.set_cons_zero, List.set_cons_succ, i64_w, i32_w]
              rfl
            refine one_ (i := 3) (N := some 21) #[true, true, true, true, false, false, false, true, false, false] rfl rfl (one_of HT_.out (by kernel_rfl)) (by decide) (fun K hK => ?_)
            refine goes_ Try.func67 (by kernel_rfl) rfl #[.agg #[.int .u64 t355, .int .u64 t356], .int .u64 t358] (by rfl) rfl rfl zm ?_
            with_reducible refine (corebankref01_times.calls k t355 t356 t358 t359 t360 true _ A5.out).mono ?_
            rintro e w21 ⟨rfl, hb⟩
            refine ⟨_, rfl, ?_⟩
            replace BK352 := bb BK352 hb
            replace BK353 := bb BK353 hb
            replace BK357 := bb BK357 hb
            replace BK362 := bb BK362 hb
            replace HB := bs HB hb
            (try clear hb)
            (try clear hb2)
            (try clear hk)
            (try clear hi)
            refine hK.out _ _ ⟨(blk_cell BK357.out 0).trans rfl, (blk_cell BK357.out 1).trans rfl⟩ (fun hHeld => ?_)
            clear hK K
            refine norm_ (a' := ?_) ?_ ?_
            rotate_left
            · show Act.put _ (some 21) _ = _
              simp only [Act.put, List.setIfInBounds_toArray, List.set_cons_zero, List.set_cons_succ, i64_w, i32_w]
              rfl
            refine pz (i := 4) (N := some 17) #[true, true, true, true, true, false, false, true, false, false] rfl rfl (any_of HT_.out (by kernel_rfl)) (fun _ _ _ h => h) ?_
            refine pz (i := 5) (N := some 22) #[true, true, true, true, true, true, false, true, false, false] rfl rfl (any_of HT_.out (by kernel_rfl)) (fun _ _ _ h => h) ?_
            refine pz (i := 6) (N := some 23) #[true, true, true, true, true, true, true, true, false, false] rfl rfl (any_of HT_.out (by kernel_rfl)) (fun _ _ _ h => h) ?_
            exact norm_ (by simp only [putAll, Act.put, List.setIfInBounds_toArray, List.set_cons_zero, List.set_cons_succ]) (hCont (gb362) _ ⟨hHeld, (bq BK352), (bq BK353), (bq BK357), (bq BK362), GW362.out, GE362.out, NB352_362.out, NB362_352.out, NB353_362.out, NB362_353.out, NB357_362.out, NB362_357.out, (hq HB)⟩)
        · skip
          refine box_step ?hg (N := 8) ?hd (cs := #[.int .u64 0, .int .u64 0]) (t := 89) ?hr ?_; (case hd => rfl); (case hg => rfl); (case hr => first | (go_simp; done) | (go_simp; rfl))
          intro gb362 hg w20 hbox hb
          have BK362 := Aside0.mk (hbox)
          have GW362 := ge HB hg
          have GE362 := ge HB hg
          have NB352_362 := nl BK352 hg
          have NB362_352 := ng NB352_362
          have NB353_362 := nl BK353 hg
          have NB362_353 := ng NB353_362
          have NB357_362 := nl BK357 hg
          have NB362_357 := ng NB357_362
          replace BK352 := bb BK352 hb
          replace BK353 := bb BK353 hb
          replace BK357 := bb BK357 hb
          replace HB := bs HB hb
          clear hb hbox hg
          refine hK.out _ _ ⟨(blk_cell BK357.out 0).trans rfl, (blk_cell BK357.out 1).trans rfl⟩ (fun hHeld => ?_)
          clear hK K
          refine norm_ (a' := ?_) ?_ ?_
          rotate_left
          · show Act.put _ (some 8) _ = _
            simp only [Act.put, List.setIfInBounds_toArray, List.set_cons_zero, List.set_cons_succ, i64_w, i32_w]
            rfl
          refine one_ (i := 2) (N := some 20) #[true, true, true, false, false, false, false, true, false, false] rfl rfl (one_of HT_.out (by kernel_rfl)) (by decide) (fun K hK => ?_)
          refine goes_ Try.func68 (by kernel_rfl) rfl #[.int .i64 a1] (by rfl) rfl rfl zm ?_
          with_reducible refine (corebankref01_size.calls a1 t358 _ A4.out).mono ?_
          rintro e w' ⟨rfl, ⟨nd, rfl⟩⟩
          refine ⟨_, rfl, ?_⟩
          refine hK.out _ _ ⟨(blk_cell BK357.out 0).trans rfl, (blk_cell BK357.out 1).trans rfl⟩ (fun hHeld => ?_)
          clear hK K
          refine norm_ (a' := ?_) ?_ ?_
          rotate_left
          · show Act.put _ (some 20) _ = _
            simp only [Act.put, List.setIfInBounds_toArray, List.set_cons_zero, List.set_cons_succ, i64_w, i32_w]
            rfl
          refine one_ (i := 3) (N := some 21) #[true, true, true, true, false, false, false, true, false, false] rfl rfl (one_of HT_.out (by kernel_rfl)) (by decide) (fun K hK => ?_)
          refine goes_ Try.func67 (by kernel_rfl) rfl #[.agg #[.int .u64 t355, .int .u64 t356], .int .u64 t358] (by rfl) rfl rfl zm ?_
          with_reducible refine (corebankref01_times.calls k t355 t356 t358 t359 t360 true _ A5.out).mono ?_
          rintro e w21 ⟨rfl, hb⟩
          refine ⟨_, rfl, ?_⟩
          replace BK352 := bb BK352 hb
          replace BK353 := bb BK353 hb
          replace BK357 := bb BK357 hb
          replace BK362 := bb BK362 hb
          replace HB := bs HB hb
          (try clear hb)
          (try clear hb2)
          (try clear hk)
          (try clear hi)
          refine hK.out _ _ ⟨(blk_cell BK357.out 0).trans rfl, (blk_cell BK357.out 1).trans rfl⟩ (fun hHeld => ?_)
          clear hK K
          refine norm_ (a' := ?_) ?_ ?_
          rotate_left
          · show Act.put _ (some 21) _ = _
            simp only [Act.put, List.setIfInBounds_toArray, List.set_cons_zero, List.set_cons_succ, i64_w, i32_w]
            rfl
          refine pz (i := 4) (N := some 17) #[true, true, true, true, true, false, false, true, false, false] rfl rfl (any_of HT_.out (by kernel_rfl)) (fun _ _ _ h => h) ?_
          refine pz (i := 5) (N := some 22) #[true, true, true, true, true, true, false, true, false, false] rfl rfl (any_of HT_.out (by kernel_rfl)) (fun _ _ _ h => h) ?_
          refine pz (i := 6) (N := some 23) #[true, true, true, true, true, true, true, true, false, false] rfl rfl (any_of HT_.out (by kernel_rfl)) (fun _ _ _ h => h) ?_
          exact norm_ (by simp only [putAll, Act.put, List.setIfInBounds_toArray, List.set_cons_zero, List.set_cons_succ]) (hCont (gb362) _ ⟨hHeld, (bq BK352), (bq BK353), (bq BK357), (bq BK362), GW362.out, GE362.out, NB352_362.out, NB362_352.out, NB353_362.out, NB362_353.out, NB357_362.out, NB362_357.out, (hq HB)⟩)
      rintro gb362 w22 ⟨hS_, h0_, h1_, h2_, h3_, h4_, h5_, h6_, h7_, h8_, h9_, h10_, h11_, h12_⟩
      have BK362 : Aside0 (w22.heap[gb362]? = some (.cells #[.int .u64 0, .int .u64 0] 89 (0, 0))) := ⟨h3_⟩
      have GW362 : Aside0 (w.heap.size ≤ gb362) := ⟨h4_⟩
      have GE362 : Aside0 (w.heap.size ≤ gb362) := ⟨h5_⟩
      have NB352_362 : Aside0 (gb352 ≠ gb362) := ⟨h6_⟩
      have NB362_352 : Aside0 (gb362 ≠ gb352) := ⟨h7_⟩
      have NB353_362 : Aside0 (gb353 ≠ gb362) := ⟨h8_⟩
      have NB362_353 : Aside0 (gb362 ≠ gb353) := ⟨h9_⟩
      have NB357_362 : Aside0 (gb357 ≠ gb362) := ⟨h10_⟩
      have NB362_357 : Aside0 (gb362 ≠ gb357) := ⟨h11_⟩
      replace BK352 : Aside0 (w22.heap[gb352]? = some (.cells #[.int .i64 a0_0, .int .u64 a0_1] 35 (0, 0))) := ⟨h0_⟩
      replace BK353 : Aside0 (w22.heap[gb353]? = some (.cells #[.int .i64 0, .int .u64 0] 35 (0, 0))) := ⟨h1_⟩
      replace BK357 : Aside0 (w22.heap[gb357]? = some (.cells #[.int .u64 t355, .int .u64 t356] 89 (0, 0))) := ⟨h2_⟩
      replace HB : Aside0 (Below w.heap.size w w22) := ⟨h12_⟩
      clear h0_ h1_ h2_ h3_ h4_ h5_ h6_ h7_ h8_ h9_ h10_ h11_ h12_
      have hHeld : w22.cell? ⟨gb357, 0, none⟩ = some (.int .u64 t355) ∧ w22.cell? ⟨gb357, 1, none⟩ = some (.int .u64 t356) := hS_
      refine norm_ (a' := ?_) ?_ ?_
      rotate_left
      · simp only [putAll, Act.put, List.setIfInBounds_toArray, List.set_cons_zero, List.set_cons_succ]
        rfl
      refine one_ (i := 8) (N := none) #[true, true, true, true, true, true, true, true, true, false] rfl rfl (one_of HT_.out (by kernel_rfl)) (by decide) (fun K hK => ?_)
      have hs23 : w22.cell? ⟨gb362, 0, none⟩ = some (.int .u64 0) := (blk_cell BK362.out 0).trans rfl
      have hfs23 := blk_frozen BK362.out 0
      have hns23_0 := NB352_362.out
      have hns23_1 := NB353_362.out
      have hns23_2 := NB357_362.out
      have hms23_0 := NB362_352.out
      have hms23_1 := NB362_353.out
      have hms23_2 := NB362_357.out
      have hs24 : w22.cell? ⟨gb362, 1, none⟩ = some (.int .u64 0) := (blk_cell BK362.out 1).trans rfl
      have hfs24 := blk_frozen BK362.out 1
      have hns24_0 := NB352_362.out
      have hns24_1 := NB353_362.out
      have hns24_2 := NB357_362.out
      have hms24_0 := NB362_352.out
      have hms24_1 := NB362_353.out
      have hms24_2 := NB362_357.out
      refine skip_ (w1 := ?_) (by rfl) rfl ?_ ?_
      rotate_left
      · go_simp
        rfl
      refine hK.out _ _ ⟨((cell_far (p := ⟨gb362, _, none⟩) NB357_362.out _).trans (((cell_far (p := ⟨gb362, _, none⟩) NB357_362.out _).trans (hHeld.1)))), ((cell_far (p := ⟨gb362, _, none⟩) NB357_362.out _).trans (((cell_far (p := ⟨gb362, _, none⟩) NB357_362.out _).trans (hHeld.2))))⟩ (fun hHeld => ?_)
      clear hK K
      refine pz (i := 9) (N := some 9) #[true, true, true, true, true, true, true, true, true, true] rfl rfl (any_of HT_.out (by kernel_rfl)) (fun _ _ _ h => h) ?_
      refine done_ (done_of HT_.out (by kernel_rfl)) ?_
      have hnb25 := NB362_352.out
      have hnc25 := NB352_362.out
      have hnb26 := NB362_353.out
      have hnc26 := NB353_362.out
      have hnb27 := NB362_357.out
      have hnc27 := NB357_362.out
      obtain ⟨hcz28_0, hcz28_1, hfz28_0, hfz28_1⟩ := cz2 BK362
      try go_wp2_with (first | ((with_reducible refine gate_callee (f := 69) rfl ?_); refine goesL_ (some 30) rfl rfl Try.func69 (by kernel_rfl) rfl #[.bool (t354 != (decide (a1 < 0))), .agg #[.int .u64 t359, .int .u64 t360]] rfl zm ?_; (with_reducible refine (corebankref01_Join.calls (t354 != (decide (a1 < 0))) t359 t360 t363 t364 true _ A6.out).mono ?_); rintro e w29 ⟨rfl, hb⟩; refine ⟨_, rfl, ?_⟩; replace BK352 := bb BK352 hb; replace BK353 := bb BK353 hb; replace BK357 := bb BK357 hb; replace BK362 := bpb BK362 hb #[.int .u64 t359, .int .u64 t360]; replace HB := bs HB hb; (try clear hb); (try clear hb2); (try clear hk); (try clear hi)) | ((with_reducible refine gate_dst (N := 10) rfl ?_); refine box_event ?hg (N := 10) ?hd (cs := #[.int .i64 0, .int .u64 0]) (t := 35) ?hr ?_; (case hd => rfl); (case hg => rfl); (case hr => first | (go_simp; done) | (go_simp; rfl)); intro gb366 hg w30 hbox hb; have BK366 := Aside0.mk (hbox); have GW366 := ge HB hg; have GE366 := ge HB hg; have NB352_366 := nl BK352 hg; have NB366_352 := ng NB352_366; have NB353_366 := nl BK353 hg; have NB366_353 := ng NB353_366; have NB357_366 := nl BK357 hg; have NB366_357 := ng NB357_366; have NB362_366 := nl BK362 hg; have NB366_362 := ng NB362_366; replace BK352 := bb BK352 hb; replace BK353 := bb BK353 hb; replace BK357 := bb BK357 hb; replace BK362 := bb BK362 hb; replace HB := bs HB hb; clear hb hbox hg; have hnb31 := NB366_352.out; have hnc31 := NB352_366.out; have hnb32 := NB366_353.out; have hnc32 := NB353_366.out; have hnb33 := NB366_357.out; have hnc33 := NB357_366.out; have hnb34 := NB366_362.out; have hnc34 := NB362_366.out; obtain ⟨hcz35_0, hcz35_1, hfz35_0, hfz35_1⟩ := cz2 BK366; obtain ⟨hcz36_0, hcz36_1, hfz36_0, hfz36_1⟩ := cz2 BK353))
      refine bodyPost_ret (results_ct rfl _ _ gb353 35 #[.int .i64 t363, .int .u64 t364] (0, 0) _ rfl (bp BK353) Try.underlying35 rfl (by kernel_rfl)) rfl ?_
      exact ⟨by first | rfl | (simp [errW_none, errW_some] <;> rfl) | (simp [*, errW_none, errW_some] <;> rfl), hq HB⟩
    · replace c8 := Bool.eq_false_iff.mpr c8
      subst c8
      have H1 : (some (0, 0, 6)) = some (r1, r2, r3) := by rw [if_neg (show ¬ (false = true) by decide)] at H; exact H
      clear H
      have H := H1
      clear H1
      simp only [Option.some.injEq, Prod.mk.injEq] at H
      obtain ⟨rfl, rfl, rfl⟩ := H
      go_enter Try.func46, Try.ntmps46
      try go_wp2_with (first | ((with_reducible refine gate_dst (N := 2) rfl ?_); refine box_event ?hg (N := 2) ?hd (cs := #[.int .i64 a0_0, .int .u64 a0_1]) (t := 35) ?hr ?_; (case hd => rfl); (case hg => rfl); (case hr => first | (go_simp; done) | (go_simp; rfl)); intro gb352 hg w37 hbox hb; have BK352 := Aside0.mk (hbox); have GW352 := ge HB hg; have GE352 := ge HB hg; replace HB := bs HB hb; clear hb hbox hg) | ((with_reducible refine gate_dst (N := 4) rfl ?_); refine box_event ?hg (N := 4) ?hd (cs := #[.int .i64 0, .int .u64 0]) (t := 35) ?hr ?_; (case hd => rfl); (case hg => rfl); (case hr => first | (go_simp; done) | (go_simp; rfl)); intro gb353 hg w38 hbox hb; have BK353 := Aside0.mk (hbox); have GW353 := ge HB hg; have GE353 := ge HB hg; have NB352_353 := nl BK352 hg; have NB353_352 := ng NB352_353; replace BK352 := bb BK352 hb; replace HB := bs HB hb; clear hb hbox hg; have hnb39 := NB352_353.out; have hnc39 := NB353_352.out; obtain ⟨hcz40_0, hcz40_1, hfz40_0, hfz40_1⟩ := cz2 BK352) | ((with_reducible refine gate_callee (f := 48) rfl ?_); refine goesL_ (some 14) rfl rfl Try.func48 (by kernel_rfl) rfl #[.agg #[.int .i64 a0_0, .int .u64 a0_1]] rfl zm ?_; (with_reducible refine (corebankref01_Split.calls a0_0 a0_1 t354 t355 t356 _ A3.out).mono ?_); rintro e w41 ⟨rfl, hb⟩; refine ⟨_, rfl, ?_⟩; replace BK352 := bb BK352 hb; replace BK353 := bb BK353 hb; replace HB := bs HB hb; (try clear hb); (try clear hb2); (try clear hk); (try clear hi)) | ((with_reducible refine gate_dst (N := 7) rfl ?_); refine box_event ?hg (N := 7) ?hd (cs := #[.int .u64 0, .int .u64 0]) (t := 89) ?hr ?_; (case hd => rfl); (case hg => rfl); (case hr => first | (go_simp; done) | (go_simp; rfl)); intro gb357 hg w42 hbox hb; have BK357 := Aside0.mk (hbox); have GW357 := ge HB hg; have GE357 := ge HB hg; have NB352_357 := nl BK352 hg; have NB357_352 := ng NB352_357; have NB353_357 := nl BK353 hg; have NB357_353 := ng NB353_357; replace BK352 := bb BK352 hb; replace BK353 := bb BK353 hb; replace HB := bs HB hb; clear hb hbox hg; have hnb43 := NB357_352.out; have hnc43 := NB352_357.out; have hnb44 := NB357_353.out; have hnc44 := NB353_357.out; obtain ⟨hcz45_0, hcz45_1, hfz45_0, hfz45_1⟩ := cz2 BK357))
      have n0_ : Aside0 (((w42.setCell ⟨gb357, 0, none⟩ (.int .u64 t355)).setCell ⟨gb357, 1, none⟩ (.int .u64 t356)).heap[gb352]? = some (.cells #[.int .i64 a0_0, .int .u64 a0_1] 35 (0, 0))) := ⟨bq BK352⟩
      have n1_ : Aside0 (((w42.setCell ⟨gb357, 0, none⟩ (.int .u64 t355)).setCell ⟨gb357, 1, none⟩ (.int .u64 t356)).heap[gb353]? = some (.cells #[.int .i64 0, .int .u64 0] 35 (0, 0))) := ⟨bq BK353⟩
      have n2_ : Aside0 (((w42.setCell ⟨gb357, 0, none⟩ (.int .u64 t355)).setCell ⟨gb357, 1, none⟩ (.int .u64 t356)).heap[gb357]? = some (.cells #[.int .u64 t355, .int .u64 t356] 89 (0, 0))) := ⟨bp BK357⟩
      have n3_ : Aside0 (Below w.heap.size w ((w42.setCell ⟨gb357, 0, none⟩ (.int .u64 t355)).setCell ⟨gb357, 1, none⟩ (.int .u64 t356))) := ⟨hq HB⟩
      (try clear BK352)
      (try clear BK353)
      (try clear BK357)
      (try clear HB)
      generalize ((w42.setCell ⟨gb357, 0, none⟩ (.int .u64 t355)).setCell ⟨gb357, 1, none⟩ (.int .u64 t356)) = w46 at n0_ n1_ n2_ n3_ ⊢
      have BK352 := n0_
      have BK353 := n1_
      have BK357 := n2_
      have HB := n3_
      clear n0_ n1_ n2_ n3_
      replace BK352 := bd1 BK352
      replace BK353 := bd1 BK353
      replace BK357 := bd1 BK357
      replace HB := hb1 HB
      refine start_ (n := 10) (S := fun w' => w'.cell? ⟨gb357, 0, none⟩ = some (.int .u64 t355) ∧ w'.cell? ⟨gb357, 1, none⟩ = some (.int .u64 t356)) (ds := []) #[false, false, false, false, false, false, false, false, false, false] (by kernel_rfl) rfl rfl ⟨(blk_cell BK357.out 0).trans rfl, (blk_cell BK357.out 1).trans rfl⟩ (fun hHeld => ?_); refine with_tabW corebankref01_Scale.tab2 corebankref01_Scale.bits2 (fun HT_ HW_ => ?_)
      generalize w46.drew = w47 at BK352 BK353 BK357 HB hHeld ⊢
      refine pz (i := 1) (N := some 19) #[false, true, false, false, false, false, false, false, false, false] rfl rfl (any_of HT_.out (by kernel_rfl)) (fun _ _ _ h => h) ?_
      refine tz2 (i := 0) (N := some 18) #[true, true, false, false, false, false, false, false, false, false] rfl rfl (take_ofW HT_.out HW_.out (by kernel_rfl)) (fun _ _ _ h => h) hHeld ?_
      refine join_ (σ := Nat) 2 #[true, true, true, true, true, true, true, true, false, false] (fun s_ => [(20, .int .u64 t358), (21, .tuple #[.agg #[.int .u64 t359, .int .u64 t360], .bool true]), (8, .pointer (some ⟨s_, 0, none⟩)), (17, .tuple #[.agg #[.int .u64 t359, .int .u64 t360], .bool true]), (22, .agg #[.int .u64 t359, .int .u64 t360]), (23, .bool true)]) (fun s_ w' => (w'.cell? ⟨gb357, 0, none⟩ = some (.int .u64 t355) ∧ w'.cell? ⟨gb357, 1, none⟩ = some (.int .u64 t356)) ∧ (w'.heap[gb352]? = some (.cells #[.int .i64 a0_0, .int .u64 a0_1] 35 (0, 0))) ∧ (w'.heap[gb353]? = some (.cells #[.int .i64 0, .int .u64 0] 35 (0, 0))) ∧ (w'.heap[gb357]? = some (.cells #[.int .u64 t355, .int .u64 t356] 89 (0, 0))) ∧ (w'.heap[s_]? = some (.cells #[.int .u64 0, .int .u64 0] 89 (0, 0))) ∧ (w.heap.size ≤ s_) ∧ (w.heap.size ≤ s_) ∧ (gb352 ≠ s_) ∧ (s_ ≠ gb352) ∧ (gb353 ≠ s_) ∧ (s_ ≠ gb353) ∧ (gb357 ≠ s_) ∧ (s_ ≠ gb357) ∧ (Below w.heap.size w w')) ?_ ?_
      rotate_left
      · intro hCont
        refine two_ (i := 2) (j := 7) (Ni := some 20) (Nj := some 8) #[true, true, true, false, false, false, false, false, false, false] #[true, true, false, false, false, false, false, true, false, false] rfl rfl rfl rfl (two_of HT_.out (by kernel_rfl)) (by decide) (by decide) (fun K hK => ?_) (fun K hK => ?_)
        · skip
          refine goes_ Try.func68 (by kernel_rfl) rfl #[.int .i64 a1] (by rfl) rfl rfl zm ?_
          with_reducible refine (corebankref01_size.calls a1 t358 _ A4.out).mono ?_
          rintro e w' ⟨rfl, ⟨nd, rfl⟩⟩
          refine ⟨_, rfl, ?_⟩
          refine hK.out _ _ ⟨(blk_cell BK357.out 0).trans rfl, (blk_cell BK357.out 1).trans rfl⟩ (fun hHeld => ?_)
          clear hK K
          refine norm_ (a' := ?_) ?_ ?_
          rotate_left
          · show Act.put _ (some 20) _ = _
            simp only [Act.put, List.setIfInBounds_toArray, List.set_cons_zero, List.set_cons_succ, i64_w, i32_w]
            rfl
          refine two_ (i := 3) (j := 7) (Ni := some 21) (Nj := some 8) #[true, true, true, true, false, false, false, false, false, false] #[true, true, true, false, false, false, false, true, false, false] rfl rfl rfl rfl (two_of HT_.out (by kernel_rfl)) (by decide) (by decide) (fun K hK => ?_) (fun K hK => ?_)
          · skip
            refine goes_ Try.func67 (by kernel_rfl) rfl #[.agg #[.int .u64 t355, .int .u64 t356], .int .u64 t358] (by rfl) rfl rfl zm ?_
            with_reducible refine (corebankref01_times.calls k t355 t356 t358 t359 t360 true _ A5.out).mono ?_
            rintro e w48 ⟨rfl, hb⟩
            refine ⟨_, rfl, ?_⟩
            replace BK352 := bb BK352 hb
            replace BK353 := bb BK353 hb
            replace BK357 := bb BK357 hb
            replace HB := bs HB hb
            (try clear hb)
            (try clear hb2)
            (try clear hk)
            (try clear hi)
            refine hK.out _ _ ⟨(blk_cell BK357.out 0).trans rfl, (blk_cell BK357.out 1).trans rfl⟩ (fun hHeld => ?_)
            clear hK K
            refine norm_ (a' := ?_) ?_ ?_
            rotate_left
            · show Act.put _ (some 21) _ = _
              simp only [Act.put, List.setIfInBounds_toArray, List.set_cons_zero, List.set_cons_succ, i64_w, i32_w]
              rfl
            refine pz (i := 4) (N := some 17) #[true, true, true, true, true, false, false, false, false, false] rfl rfl (any_of HT_.out (by kernel_rfl)) (fun _ _ _ h => h) ?_
            refine pz (i := 5) (N := some 22) #[true, true, true, true, true, true, false, false, false, false] rfl rfl (any_of HT_.out (by kernel_rfl)) (fun _ _ _ h => h) ?_
            refine pz (i := 6) (N := some 23) #[true, true, true, true, true, true, true, false, false, false] rfl rfl (any_of HT_.out (by kernel_rfl)) (fun _ _ _ h => h) ?_
            refine one_ (i := 7) (N := some 8) #[true, true, true, true, true, true, true, true, false, false] rfl rfl (one_of HT_.out (by kernel_rfl)) (by decide) (fun K hK => ?_)
            refine box_step ?hg (N := 8) ?hd (cs := #[.int .u64 0, .int .u64 0]) (t := 89) ?hr ?_; (case hd => rfl); (case hg => rfl); (case hr => first | (go_simp; done) | (go_simp; rfl))
            intro gb362 hg w49 hbox hb
            have BK362 := Aside0.mk (hbox)
            have GW362 := ge HB hg
            have GE362 := ge HB hg
            have NB352_362 := nl BK352 hg
            have NB362_352 := ng NB352_362
            have NB353_362 := nl BK353 hg
            have NB362_353 := ng NB353_362
            have NB357_362 := nl BK357 hg
            have NB362_357 := ng NB357_362
            replace BK352 := bb BK352 hb
            replace BK353 := bb BK353 hb
            replace BK357 := bb BK357 hb
            replace HB := bs HB hb
            clear hb hbox hg
            refine hK.out _ _ ⟨(blk_cell BK357.out 0).trans rfl, (blk_cell BK357.out 1).trans rfl⟩ (fun hHeld => ?_)
            clear hK K
            refine norm_ (a' := ?_) ?_ ?_
            rotate_left
            · show Act.put _ (some 8) _ = _
              simp only [Act.put, List.setIfInBounds_toArray, List.set_cons_zero, List.set_cons_succ, i64_w, i32_w]
              rfl
            exact norm_ (by simp only [putAll, Act.put, List.setIfInBounds_toArray, List.set_cons_zero, List.set_cons_succ]) (hCont (gb362) _ ⟨hHeld, (bq BK352), (bq BK353), (bq BK357), (bq BK362), GW362.out, GE362.out, NB352_362.out, NB362_352.out, NB353_362.out, NB362_353.out, NB357_362.out, NB362_357.out, (hq HB)⟩)
          · skip
            refine box_step ?hg (N := 8) ?hd (cs := #[.int .u64 0, .int .u64 0]) (t := 89) ?hr ?_; (case hd => rfl); (case hg => rfl); (case hr => first | (go_simp; done) | (go_simp; rfl))
            intro gb362 hg w48 hbox hb
            have BK362 := Aside0.mk (hbox)
            have GW362 := ge HB hg
            have GE362 := ge HB hg
            have NB352_362 := nl BK352 hg
            have NB362_352 := ng NB352_362
            have NB353_362 := nl BK353 hg
            have NB362_353 := ng NB353_362
            have NB357_362 := nl BK357 hg
            have NB362_357 := ng NB357_362
            replace BK352 := bb BK352 hb
            replace BK353 := bb BK353 hb
            replace BK357 := bb BK357 hb
            replace HB := bs HB hb
            clear hb hbox hg
            refine hK.out _ _ ⟨(blk_cell BK357.out 0).trans rfl, (blk_cell BK357.out 1).trans rfl⟩ (fun hHeld => ?_)
            clear hK K
            refine norm_ (a' := ?_) ?_ ?_
            rotate_left
            · show Act.put _ (some 8) _ = _
              simp only [Act.put, List.setIfInBounds_toArray, List.set_cons_zero, List.set_cons_succ, i64_w, i32_w]
              rfl
            refine one_ (i := 3) (N := some 21) #[true, true, true, true, false, false, false, true, false, false] rfl rfl (one_of HT_.out (by kernel_rfl)) (by decide) (fun K hK => ?_)
            refine goes_ Try.func67 (by kernel_rfl) rfl #[.agg #[.int .u64 t355, .int .u64 t356], .int .u64 t358] (by rfl) rfl rfl zm ?_
            with_reducible refine (corebankref01_times.calls k t355 t356 t358 t359 t360 true _ A5.out).mono ?_
            rintro e w49 ⟨rfl, hb⟩
            refine ⟨_, rfl, ?_⟩
            replace BK352 := bb BK352 hb
            replace BK353 := bb BK353 hb
            replace BK357 := bb BK357 hb
            replace BK362 := bb BK362 hb
            replace HB := bs HB hb
            (try clear hb)
            (try clear hb2)
            (try clear hk)
            (try clear hi)
            refine hK.out _ _ ⟨(blk_cell BK357.out 0).trans rfl, (blk_cell BK357.out 1).trans rfl⟩ (fun hHeld => ?_)
            clear hK K
            refine norm_ (a' := ?_) ?_ ?_
            rotate_left
            · show Act.put _ (some 21) _ = _
              simp only [Act.put, List.setIfInBounds_toArray, List.set_cons_zero, List.set_cons_succ, i64_w, i32_w]
              rfl
            refine pz (i := 4) (N := some 17) #[true, true, true, true, true, false, false, true, false, false] rfl rfl (any_of HT_.out (by kernel_rfl)) (fun _ _ _ h => h) ?_
            refine pz (i := 5) (N := some 22) #[true, true, true, true, true, true, false, true, false, false] rfl rfl (any_of HT_.out (by kernel_rfl)) (fun _ _ _ h => h) ?_
            refine pz (i := 6) (N := some 23) #[true, true, true, true, true, true, true, true, false, false] rfl rfl (any_of HT_.out (by kernel_rfl)) (fun _ _ _ h => h) ?_
            exact norm_ (by simp only [putAll, Act.put, List.setIfInBounds_toArray, List.set_cons_zero, List.set_cons_succ]) (hCont (gb362) _ ⟨hHeld, (bq BK352), (bq BK353), (bq BK357), (bq BK362), GW362.out, GE362.out, NB352_362.out, NB362_352.out, NB353_362.out, NB362_353.out, NB357_362.out, NB362_357.out, (hq HB)⟩)
        · skip
          refine box_step ?hg (N := 8) ?hd (cs := #[.int .u64 0, .int .u64 0]) (t := 89) ?hr ?_; (case hd => rfl); (case hg => rfl); (case hr => first | (go_simp; done) | (go_simp; rfl))
          intro gb362 hg w48 hbox hb
          have BK362 := Aside0.mk (hbox)
          have GW362 := ge HB hg
          have GE362 := ge HB hg
          have NB352_362 := nl BK352 hg
          have NB362_352 := ng NB352_362
          have NB353_362 := nl BK353 hg
          have NB362_353 := ng NB353_362
          have NB357_362 := nl BK357 hg
          have NB362_357 := ng NB357_362
          replace BK352 := bb BK352 hb
          replace BK353 := bb BK353 hb
          replace BK357 := bb BK357 hb
          replace HB := bs HB hb
          clear hb hbox hg
          refine hK.out _ _ ⟨(blk_cell BK357.out 0).trans rfl, (blk_cell BK357.out 1).trans rfl⟩ (fun hHeld => ?_)
          clear hK K
          refine norm_ (a' := ?_) ?_ ?_
          rotate_left
          · show Act.put _ (some 8) _ = _
            simp only [Act.put, List.setIfInBounds_toArray, List.set_cons_zero, List.set_cons_succ, i64_w, i32_w]
            rfl
          refine one_ (i := 2) (N := some 20) #[true, true, true, false, false, false, false, true, false, false] rfl rfl (one_of HT_.out (by kernel_rfl)) (by decide) (fun K hK => ?_)
          refine goes_ Try.func68 (by kernel_rfl) rfl #[.int .i64 a1] (by rfl) rfl rfl zm ?_
          with_reducible refine (corebankref01_size.calls a1 t358 _ A4.out).mono ?_
          rintro e w' ⟨rfl, ⟨nd, rfl⟩⟩
          refine ⟨_, rfl, ?_⟩
          refine hK.out _ _ ⟨(blk_cell BK357.out 0).trans rfl, (blk_cell BK357.out 1).trans rfl⟩ (fun hHeld => ?_)
          clear hK K
          refine norm_ (a' := ?_) ?_ ?_
          rotate_left
          · show Act.put _ (some 20) _ = _
            simp only [Act.put, List.setIfInBounds_toArray, List.set_cons_zero, List.set_cons_succ, i64_w, i32_w]
            rfl
          refine one_ (i := 3) (N := some 21) #[true, true, true, true, false, false, false, true, false, false] rfl rfl (one_of HT_.out (by kernel_rfl)) (by decide) (fun K hK => ?_)
          refine goes_ Try.func67 (by kernel_rfl) rfl #[.agg #[.int .u64 t355, .int .u64 t356], .int .u64 t358] (by rfl) rfl rfl zm ?_
          with_reducible refine (corebankref01_times.calls k t355 t356 t358 t359 t360 true _ A5.out).mono ?_
          rintro e w49 ⟨rfl, hb⟩
          refine ⟨_, rfl, ?_⟩
          replace BK352 := bb BK352 hb
          replace BK353 := bb BK353 hb
          replace BK357 := bb BK357 hb
          replace BK362 := bb BK362 hb
          replace HB := bs HB hb
          (try clear hb)
          (try clear hb2)
          (try clear hk)
          (try clear hi)
          refine hK.out _ _ ⟨(blk_cell BK357.out 0).trans rfl, (blk_cell BK357.out 1).trans rfl⟩ (fun hHeld => ?_)
          clear hK K
          refine norm_ (a' := ?_) ?_ ?_
          rotate_left
          · show Act.put _ (some 21) _ = _
            simp only [Act.put, List.setIfInBounds_toArray, List.set_cons_zero, List.set_cons_succ, i64_w, i32_w]
            rfl
          refine pz (i := 4) (N := some 17) #[true, true, true, true, true, false, false, true, false, false] rfl rfl (any_of HT_.out (by kernel_rfl)) (fun _ _ _ h => h) ?_
          refine pz (i := 5) (N := some 22) #[true, true, true, true, true, true, false, true, false, false] rfl rfl (any_of HT_.out (by kernel_rfl)) (fun _ _ _ h => h) ?_
          refine pz (i := 6) (N := some 23) #[true, true, true, true, true, true, true, true, false, false] rfl rfl (any_of HT_.out (by kernel_rfl)) (fun _ _ _ h => h) ?_
          exact norm_ (by simp only [putAll, Act.put, List.setIfInBounds_toArray, List.set_cons_zero, List.set_cons_succ]) (hCont (gb362) _ ⟨hHeld, (bq BK352), (bq BK353), (bq BK357), (bq BK362), GW362.out, GE362.out, NB352_362.out, NB362_352.out, NB353_362.out, NB362_353.out, NB357_362.out, NB362_357.out, (hq HB)⟩)
      rintro gb362 w50 ⟨hS_, h0_, h1_, h2_, h3_, h4_, h5_, h6_, h7_, h8_, h9_, h10_, h11_, h12_⟩
      have BK362 : Aside0 (w50.heap[gb362]? = some (.cells #[.int .u64 0, .int .u64 0] 89 (0, 0))) := ⟨h3_⟩
      have GW362 : Aside0 (w.heap.size ≤ gb362) := ⟨h4_⟩
      have GE362 : Aside0 (w.heap.size ≤ gb362) := ⟨h5_⟩
      have NB352_362 : Aside0 (gb352 ≠ gb362) := ⟨h6_⟩
      have NB362_352 : Aside0 (gb362 ≠ gb352) := ⟨h7_⟩
      have NB353_362 : Aside0 (gb353 ≠ gb362) := ⟨h8_⟩
      have NB362_353 : Aside0 (gb362 ≠ gb353) := ⟨h9_⟩
      have NB357_362 : Aside0 (gb357 ≠ gb362) := ⟨h10_⟩
      have NB362_357 : Aside0 (gb362 ≠ gb357) := ⟨h11_⟩
      replace BK352 : Aside0 (w50.heap[gb352]? = some (.cells #[.int .i64 a0_0, .int .u64 a0_1] 35 (0, 0))) := ⟨h0_⟩
      replace BK353 : Aside0 (w50.heap[gb353]? = some (.cells #[.int .i64 0, .int .u64 0] 35 (0, 0))) := ⟨h1_⟩
      replace BK357 : Aside0 (w50.heap[gb357]? = some (.cells #[.int .u64 t355, .int .u64 t356] 89 (0, 0))) := ⟨h2_⟩
      replace HB : Aside0 (Below w.heap.size w w50) := ⟨h12_⟩
      clear h0_ h1_ h2_ h3_ h4_ h5_ h6_ h7_ h8_ h9_ h10_ h11_ h12_
      have hHeld : w50.cell? ⟨gb357, 0, none⟩ = some (.int .u64 t355) ∧ w50.cell? ⟨gb357, 1, none⟩ = some (.int .u64 t356) := hS_
      refine norm_ (a' := ?_) ?_ ?_
      rotate_left
      · simp only [putAll, Act.put, List.setIfInBounds_toArray, List.set_cons_zero, List.set_cons_succ]
        rfl
      refine one_ (i := 8) (N := none) #[true, true, true, true, true, true, true, true, true, false] rfl rfl (one_of HT_.out (by kernel_rfl)) (by decide) (fun K hK => ?_)
      have hs51 : w50.cell? ⟨gb362, 0, none⟩ = some (.int .u64 0) := (blk_cell BK362.out 0).trans rfl
      have hfs51 := blk_frozen BK362.out 0
      have hns51_0 := NB352_362.out
      have hns51_1 := NB353_362.out
      have hns51_2 := NB357_362.out
      have hms51_0 := NB362_352.out
      have hms51_1 := NB362_353.out
      have hms51_2 := NB362_357.out
      have hs52 : w50.cell? ⟨gb362, 1, none⟩ = some (.int .u64 0) := (blk_cell BK362.out 1).trans rfl
      have hfs52 := blk_frozen BK362.out 1
      have hns52_0 := NB352_362.out
      have hns52_1 := NB353_362.out
      have hns52_2 := NB357_362.out
      have hms52_0 := NB362_352.out
      have hms52_1 := NB362_353.out
      have hms52_2 := NB362_357.out
      refine skip_ (w1 := ?_) (by rfl) rfl ?_ ?_
      rotate_left
      · go_simp
        rfl
      refine hK.out _ _ ⟨((cell_far (p := ⟨gb362, _, none⟩) NB357_362.out _).trans (((cell_far (p := ⟨gb362, _, none⟩) NB357_362.out _).trans (hHeld.1)))), ((cell_far (p := ⟨gb362, _, none⟩) NB357_362.out _).trans (((cell_far (p := ⟨gb362, _, none⟩) NB357_362.out _).trans (hHeld.2))))⟩ (fun hHeld => ?_)
      clear hK K
      refine pz (i := 9) (N := some 9) #[true, true, true, true, true, true, true, true, true, true] rfl rfl (any_of HT_.out (by kernel_rfl)) (fun _ _ _ h => h) ?_
      refine done_ (done_of HT_.out (by kernel_rfl)) ?_
      have hnb53 := NB362_352.out
      have hnc53 := NB352_362.out
      have hnb54 := NB362_353.out
      have hnc54 := NB353_362.out
      have hnb55 := NB362_357.out
      have hnc55 := NB357_362.out
      obtain ⟨hcz56_0, hcz56_1, hfz56_0, hfz56_1⟩ := cz2 BK362
      try go_wp2_with (first | ((with_reducible refine gate_callee (f := 69) rfl ?_); refine goesL_ (some 30) rfl rfl Try.func69 (by kernel_rfl) rfl #[.bool (t354 != (decide (a1 < 0))), .agg #[.int .u64 t359, .int .u64 t360]] rfl zm ?_; (with_reducible refine (corebankref01_Join.calls (t354 != (decide (a1 < 0))) t359 t360 t363 t364 false _ A6.out).mono ?_); rintro e w57 ⟨rfl, hb⟩; refine ⟨_, rfl, ?_⟩; replace BK352 := bb BK352 hb; replace BK353 := bb BK353 hb; replace BK357 := bb BK357 hb; replace BK362 := bpb BK362 hb #[.int .u64 t359, .int .u64 t360]; replace HB := bs HB hb; (try clear hb); (try clear hb2); (try clear hk); (try clear hi)) | ((with_reducible refine gate_dst (N := 10) rfl ?_); refine box_event ?hg (N := 10) ?hd (cs := #[.int .i64 0, .int .u64 0]) (t := 35) ?hr ?_; (case hd => rfl); (case hg => rfl); (case hr => first | (go_simp; done) | (go_simp; rfl)); intro gb366 hg w58 hbox hb; have BK366 := Aside0.mk (hbox); have GW366 := ge HB hg; have GE366 := ge HB hg; have NB352_366 := nl BK352 hg; have NB366_352 := ng NB352_366; have NB353_366 := nl BK353 hg; have NB366_353 := ng NB353_366; have NB357_366 := nl BK357 hg; have NB366_357 := ng NB357_366; have NB362_366 := nl BK362 hg; have NB366_362 := ng NB362_366; replace BK352 := bb BK352 hb; replace BK353 := bb BK353 hb; replace BK357 := bb BK357 hb; replace BK362 := bb BK362 hb; replace HB := bs HB hb; clear hb hbox hg; have hnb59 := NB366_352.out; have hnc59 := NB352_366.out; have hnb60 := NB366_353.out; have hnc60 := NB353_366.out; have hnb61 := NB366_357.out; have hnc61 := NB357_366.out; have hnb62 := NB366_362.out; have hnc62 := NB362_366.out; obtain ⟨hcz63_0, hcz63_1, hfz63_0, hfz63_1⟩ := cz2 BK366; obtain ⟨hcz64_0, hcz64_1, hfz64_0, hfz64_1⟩ := cz2 BK353))
      refine bodyPost_ret (results_ct rfl _ _ gb353 35 #[.int .i64 0, .int .u64 0] (0, 0) _ rfl (bp BK353) Try.underlying35 rfl (by kernel_rfl)) rfl ?_
      exact ⟨by first | rfl | (simp [errW_none, errW_some] <;> rfl) | (simp [*, errW_none, errW_some] <;> rfl), hq HB⟩
  · replace c7 := Bool.eq_false_iff.mpr c7
    subst c7
    have H1 : (some (0, 0, 6)) = some (r1, r2, r3) := by rw [if_neg (show ¬ (false = true) by decide)] at H; exact H
    clear H
    have H := H1
    clear H1
    simp only [Option.some.injEq, Prod.mk.injEq] at H
    obtain ⟨rfl, rfl, rfl⟩ := H
    go_enter Try.func46, Try.ntmps46
    try go_wp2_with (first | ((with_reducible refine gate_dst (N := 2) rfl ?_); refine box_event ?hg (N := 2) ?hd (cs := #[.int .i64 a0_0, .int .u64 a0_1]) (t := 35) ?hr ?_; (case hd => rfl); (case hg => rfl); (case hr => first | (go_simp; done) | (go_simp; rfl)); intro gb352 hg w65 hbox hb; have BK352 := Aside0.mk (hbox); have GW352 := ge HB hg; have GE352 := ge HB hg; replace HB := bs HB hb; clear hb hbox hg) | ((with_reducible refine gate_dst (N := 4) rfl ?_); refine box_event ?hg (N := 4) ?hd (cs := #[.int .i64 0, .int .u64 0]) (t := 35) ?hr ?_; (case hd => rfl); (case hg => rfl); (case hr => first | (go_simp; done) | (go_simp; rfl)); intro gb353 hg w66 hbox hb; have BK353 := Aside0.mk (hbox); have GW353 := ge HB hg; have GE353 := ge HB hg; have NB352_353 := nl BK352 hg; have NB353_352 := ng NB352_353; replace BK352 := bb BK352 hb; replace HB := bs HB hb; clear hb hbox hg; have hnb67 := NB352_353.out; have hnc67 := NB353_352.out; obtain ⟨hcz68_0, hcz68_1, hfz68_0, hfz68_1⟩ := cz2 BK352) | ((with_reducible refine gate_callee (f := 48) rfl ?_); refine goesL_ (some 14) rfl rfl Try.func48 (by kernel_rfl) rfl #[.agg #[.int .i64 a0_0, .int .u64 a0_1]] rfl zm ?_; (with_reducible refine (corebankref01_Split.calls a0_0 a0_1 t354 t355 t356 _ A3.out).mono ?_); rintro e w69 ⟨rfl, hb⟩; refine ⟨_, rfl, ?_⟩; replace BK352 := bb BK352 hb; replace BK353 := bb BK353 hb; replace HB := bs HB hb; (try clear hb); (try clear hb2); (try clear hk); (try clear hi)) | ((with_reducible refine gate_dst (N := 7) rfl ?_); refine box_event ?hg (N := 7) ?hd (cs := #[.int .u64 0, .int .u64 0]) (t := 89) ?hr ?_; (case hd => rfl); (case hg => rfl); (case hr => first | (go_simp; done) | (go_simp; rfl)); intro gb357 hg w70 hbox hb; have BK357 := Aside0.mk (hbox); have GW357 := ge HB hg; have GE357 := ge HB hg; have NB352_357 := nl BK352 hg; have NB357_352 := ng NB352_357; have NB353_357 := nl BK353 hg; have NB357_353 := ng NB353_357; replace BK352 := bb BK352 hb; replace BK353 := bb BK353 hb; replace HB := bs HB hb; clear hb hbox hg; have hnb71 := NB357_352.out; have hnc71 := NB352_357.out; have hnb72 := NB357_353.out; have hnc72 := NB353_357.out; obtain ⟨hcz73_0, hcz73_1, hfz73_0, hfz73_1⟩ := cz2 BK357))
    have n0_ : Aside0 (((w70.setCell ⟨gb357, 0, none⟩ (.int .u64 t355)).setCell ⟨gb357, 1, none⟩ (.int .u64 t356)).heap[gb352]? = some (.cells #[.int .i64 a0_0, .int .u64 a0_1] 35 (0, 0))) := ⟨bq BK352⟩
    have n1_ : Aside0 (((w70.setCell ⟨gb357, 0, none⟩ (.int .u64 t355)).setCell ⟨gb357, 1, none⟩ (.int .u64 t356)).heap[gb353]? = some (.cells #[.int .i64 0, .int .u64 0] 35 (0, 0))) := ⟨bq BK353⟩
    have n2_ : Aside0 (((w70.setCell ⟨gb357, 0, none⟩ (.int .u64 t355)).setCell ⟨gb357, 1, none⟩ (.int .u64 t356)).heap[gb357]? = some (.cells #[.int .u64 t355, .int .u64 t356] 89 (0, 0))) := ⟨bp BK357⟩
    have n3_ : Aside0 (Below w.heap.size w ((w70.setCell ⟨gb357, 0, none⟩ (.int .u64 t355)).setCell ⟨gb357, 1, none⟩ (.int .u64 t356))) := ⟨hq HB⟩
    (try clear BK352)
    (try clear BK353)
    (try clear BK357)
    (try clear HB)
    generalize ((w70.setCell ⟨gb357, 0, none⟩ (.int .u64 t355)).setCell ⟨gb357, 1, none⟩ (.int .u64 t356)) = w74 at n0_ n1_ n2_ n3_ ⊢
    have BK352 := n0_
    have BK353 := n1_
    have BK357 := n2_
    have HB := n3_
    clear n0_ n1_ n2_ n3_
    replace BK352 := bd1 BK352
    replace BK353 := bd1 BK353
    replace BK357 := bd1 BK357
    replace HB := hb1 HB
    refine start_ (n := 10) (S := fun w' => w'.cell? ⟨gb357, 0, none⟩ = some (.int .u64 t355) ∧ w'.cell? ⟨gb357, 1, none⟩ = some (.int .u64 t356)) (ds := []) #[false, false, false, false, false, false, false, false, false, false] (by kernel_rfl) rfl rfl ⟨(blk_cell BK357.out 0).trans rfl, (blk_cell BK357.out 1).trans rfl⟩ (fun hHeld => ?_); refine with_tabW corebankref01_Scale.tab2 corebankref01_Scale.bits2 (fun HT_ HW_ => ?_)
    generalize w74.drew = w75 at BK352 BK353 BK357 HB hHeld ⊢
    refine pz (i := 1) (N := some 19) #[false, true, false, false, false, false, false, false, false, false] rfl rfl (any_of HT_.out (by kernel_rfl)) (fun _ _ _ h => h) ?_
    refine tz2 (i := 0) (N := some 18) #[true, true, false, false, false, false, false, false, false, false] rfl rfl (take_ofW HT_.out HW_.out (by kernel_rfl)) (fun _ _ _ h => h) hHeld ?_
    refine join_ (σ := Nat) 2 #[true, true, true, true, true, true, true, true, false, false] (fun s_ => [(20, .int .u64 t358), (21, .tuple #[.agg #[.int .u64 t359, .int .u64 t360], .bool false]), (8, .pointer (some ⟨s_, 0, none⟩)), (17, .tuple #[.agg #[.int .u64 t359, .int .u64 t360], .bool false]), (22, .agg #[.int .u64 t359, .int .u64 t360]), (23, .bool false)]) (fun s_ w' => (w'.cell? ⟨gb357, 0, none⟩ = some (.int .u64 t355) ∧ w'.cell? ⟨gb357, 1, none⟩ = some (.int .u64 t356)) ∧ (w'.heap[gb352]? = some (.cells #[.int .i64 a0_0, .int .u64 a0_1] 35 (0, 0))) ∧ (w'.heap[gb353]? = some (.cells #[.int .i64 0, .int .u64 0] 35 (0, 0))) ∧ (w'.heap[gb357]? = some (.cells #[.int .u64 t355, .int .u64 t356] 89 (0, 0))) ∧ (w'.heap[s_]? = some (.cells #[.int .u64 0, .int .u64 0] 89 (0, 0))) ∧ (w.heap.size ≤ s_) ∧ (w.heap.size ≤ s_) ∧ (gb352 ≠ s_) ∧ (s_ ≠ gb352) ∧ (gb353 ≠ s_) ∧ (s_ ≠ gb353) ∧ (gb357 ≠ s_) ∧ (s_ ≠ gb357) ∧ (Below w.heap.size w w')) ?_ ?_
    rotate_left
    · intro hCont
      refine two_ (i := 2) (j := 7) (Ni := some 20) (Nj := some 8) #[true, true, true, false, false, false, false, false, false, false] #[true, true, false, false, false, false, false, true, false, false] rfl rfl rfl rfl (two_of HT_.out (by kernel_rfl)) (by decide) (by decide) (fun K hK => ?_) (fun K hK => ?_)
      · skip
        refine goes_ Try.func68 (by kernel_rfl) rfl #[.int .i64 a1] (by rfl) rfl rfl zm ?_
        with_reducible refine (corebankref01_size.calls a1 t358 _ A4.out).mono ?_
        rintro e w' ⟨rfl, ⟨nd, rfl⟩⟩
        refine ⟨_, rfl, ?_⟩
        refine hK.out _ _ ⟨(blk_cell BK357.out 0).trans rfl, (blk_cell BK357.out 1).trans rfl⟩ (fun hHeld => ?_)
        clear hK K
        refine norm_ (a' := ?_) ?_ ?_
        rotate_left
        · show Act.put _ (some 20) _ = _
          simp only [Act.put, List.setIfInBounds_toArray, List.set_cons_zero, List.set_cons_succ, i64_w, i32_w]
          rfl
        refine two_ (i := 3) (j := 7) (Ni := some 21) (Nj := some 8) #[true, true, true, true, false, false, false, false, false, false] #[true, true, true, false, false, false, false, true, false, false] rfl rfl rfl rfl (two_of HT_.out (by kernel_rfl)) (by decide) (by decide) (fun K hK => ?_) (fun K hK => ?_)
        · skip
          refine goes_ Try.func67 (by kernel_rfl) rfl #[.agg #[.int .u64 t355, .int .u64 t356], .int .u64 t358] (by rfl) rfl rfl zm ?_
          with_reducible refine (corebankref01_times.calls k t355 t356 t358 t359 t360 false _ A5.out).mono ?_
          rintro e w76 ⟨rfl, hb⟩
          refine ⟨_, rfl, ?_⟩
          replace BK352 := bb BK352 hb
          replace BK353 := bb BK353 hb
          replace BK357 := bb BK357 hb
          replace HB := bs HB hb
          (try clear hb)
          (try clear hb2)
          (try clear hk)
          (try clear hi)
          refine hK.out _ _ ⟨(blk_cell BK357.out 0).trans rfl, (blk_cell BK357.out 1).trans rfl⟩ (fun hHeld => ?_)
          clear hK K
          refine norm_ (a' := ?_) ?_ ?_
          rotate_left
          · show Act.put _ (some 21) _ = _
            simp only [Act.put, List.setIfInBounds_toArray, List.set_cons_zero, List.set_cons_succ, i64_w, i32_w]
            rfl
          refine pz (i := 4) (N := some 17) #[true, true, true, true, true, false, false, false, false, false] rfl rfl (any_of HT_.out (by kernel_rfl)) (fun _ _ _ h => h) ?_
          refine pz (i := 5) (N := some 22) #[true, true, true, true, true, true, false, false, false, false] rfl rfl (any_of HT_.out (by kernel_rfl)) (fun _ _ _ h => h) ?_
          refine pz (i := 6) (N := some 23) #[true, true, true, true, true, true, true, false, false, false] rfl rfl (any_of HT_.out (by kernel_rfl)) (fun _ _ _ h => h) ?_
          refine one_ (i := 7) (N := some 8) #[true, true, true, true, true, true, true, true, false, false] rfl rfl (one_of HT_.out (by kernel_rfl)) (by decide) (fun K hK => ?_)
          refine box_step ?hg (N := 8) ?hd (cs := #[.int .u64 0, .int .u64 0]) (t := 89) ?hr ?_; (case hd => rfl); (case hg => rfl); (case hr => first | (go_simp; done) | (go_simp; rfl))
          intro gb362 hg w77 hbox hb
          have BK362 := Aside0.mk (hbox)
          have GW362 := ge HB hg
          have GE362 := ge HB hg
          have NB352_362 := nl BK352 hg
          have NB362_352 := ng NB352_362
          have NB353_362 := nl BK353 hg
          have NB362_353 := ng NB353_362
          have NB357_362 := nl BK357 hg
          have NB362_357 := ng NB357_362
          replace BK352 := bb BK352 hb
          replace BK353 := bb BK353 hb
          replace BK357 := bb BK357 hb
          replace HB := bs HB hb
          clear hb hbox hg
          refine hK.out _ _ ⟨(blk_cell BK357.out 0).trans rfl, (blk_cell BK357.out 1).trans rfl⟩ (fun hHeld => ?_)
          clear hK K
          refine norm_ (a' := ?_) ?_ ?_
          rotate_left
          · show Act.put _ (some 8) _ = _
            simp only [Act.put, List.setIfInBounds_toArray, List.set_cons_zero, List.set_cons_succ, i64_w, i32_w]
            rfl
          exact norm_ (by simp only [putAll, Act.put, List.setIfInBounds_toArray, List.set_cons_zero, List.set_cons_succ]) (hCont (gb362) _ ⟨hHeld, (bq BK352), (bq BK353), (bq BK357), (bq BK362), GW362.out, GE362.out, NB352_362.out, NB362_352.out, NB353_362.out, NB362_353.out, NB357_362.out, NB362_357.out, (hq HB)⟩)
        · skip
          refine box_step ?hg (N := 8) ?hd (cs := #[.int .u64 0, .int .u64 0]) (t := 89) ?hr ?_; (case hd => rfl); (case hg => rfl); (case hr => first | (go_simp; done) | (go_simp; rfl))
          intro gb362 hg w76 hbox hb
          have BK362 := Aside0.mk (hbox)
          have GW362 := ge HB hg
          have GE362 := ge HB hg
          have NB352_362 := nl BK352 hg
          have NB362_352 := ng NB352_362
          have NB353_362 := nl BK353 hg
          have NB362_353 := ng NB353_362
          have NB357_362 := nl BK357 hg
          have NB362_357 := ng NB357_362
          replace BK352 := bb BK352 hb
          replace BK353 := bb BK353 hb
          replace BK357 := bb BK357 hb
          replace HB := bs HB hb
          clear hb hbox hg
          refine hK.out _ _ ⟨(blk_cell BK357.out 0).trans rfl, (blk_cell BK357.out 1).trans rfl⟩ (fun hHeld => ?_)
          clear hK K
          refine norm_ (a' := ?_) ?_ ?_
          rotate_left
          · show Act.put _ (some 8) _ = _
            simp only [Act.put, List.setIfInBounds_toArray, List.set_cons_zero, List.set_cons_succ, i64_w, i32_w]
            rfl
          refine one_ (i := 3) (N := some 21) #[true, true, true, true, false, false, false, true, false, false] rfl rfl (one_of HT_.out (by kernel_rfl)) (by decide) (fun K hK => ?_)
          refine goes_ Try.func67 (by kernel_rfl) rfl #[.agg #[.int .u64 t355, .int .u64 t356], .int .u64 t358] (by rfl) rfl rfl zm ?_
          with_reducible refine (corebankref01_times.calls k t355 t356 t358 t359 t360 false _ A5.out).mono ?_
          rintro e w77 ⟨rfl, hb⟩
          refine ⟨_, rfl, ?_⟩
          replace BK352 := bb BK352 hb
          replace BK353 := bb BK353 hb
          replace BK357 := bb BK357 hb
          replace BK362 := bb BK362 hb
          replace HB := bs HB hb
          (try clear hb)
          (try clear hb2)
          (try clear hk)
          (try clear hi)
          refine hK.out _ _ ⟨(blk_cell BK357.out 0).trans rfl, (blk_cell BK357.out 1).trans rfl⟩ (fun hHeld => ?_)
          clear hK K
          refine norm_ (a' := ?_) ?_ ?_
          rotate_left
          · show Act.put _ (some 21) _ = _
            simp only [Act.put, List.setIfInBounds_toArray, List.set_cons_zero, List.set_cons_succ, i64_w, i32_w]
            rfl
          refine pz (i := 4) (N := some 17) #[true, true, true, true, true, false, false, true, false, false] rfl rfl (any_of HT_.out (by kernel_rfl)) (fun _ _ _ h => h) ?_
          refine pz (i := 5) (N := some 22) #[true, true, true, true, true, true, false, true, false, false] rfl rfl (any_of HT_.out (by kernel_rfl)) (fun _ _ _ h => h) ?_
          refine pz (i := 6) (N := some 23) #[true, true, true, true, true, true, true, true, false, false] rfl rfl (any_of HT_.out (by kernel_rfl)) (fun _ _ _ h => h) ?_
          exact norm_ (by simp only [putAll, Act.put, List.setIfInBounds_toArray, List.set_cons_zero, List.set_cons_succ]) (hCont (gb362) _ ⟨hHeld, (bq BK352), (bq BK353), (bq BK357), (bq BK362), GW362.out, GE362.out, NB352_362.out, NB362_352.out, NB353_362.out, NB362_353.out, NB357_362.out, NB362_357.out, (hq HB)⟩)
      · skip
        refine box_step ?hg (N := 8) ?hd (cs := #[.int .u64 0, .int .u64 0]) (t := 89) ?hr ?_; (case hd => rfl); (case hg => rfl); (case hr => first | (go_simp; done) | (go_simp; rfl))
        intro gb362 hg w76 hbox hb
        have BK362 := Aside0.mk (hbox)
        have GW362 := ge HB hg
        have GE362 := ge HB hg
        have NB352_362 := nl BK352 hg
        have NB362_352 := ng NB352_362
        have NB353_362 := nl BK353 hg
        have NB362_353 := ng NB353_362
        have NB357_362 := nl BK357 hg
        have NB362_357 := ng NB357_362
        replace BK352 := bb BK352 hb
        replace BK353 := bb BK353 hb
        replace BK357 := bb BK357 hb
        replace HB := bs HB hb
        clear hb hbox hg
        refine hK.out _ _ ⟨(blk_cell BK357.out 0).trans rfl, (blk_cell BK357.out 1).trans rfl⟩ (fun hHeld => ?_)
        clear hK K
        refine norm_ (a' := ?_) ?_ ?_
        rotate_left
        · show Act.put _ (some 8) _ = _
          simp only [Act.put, List.setIfInBounds_toArray, List.set_cons_zero, List.set_cons_succ, i64_w, i32_w]
          rfl
        refine one_ (i := 2) (N := some 20) #[true, true, true, false, false, false, false, true, false, false] rfl rfl (one_of HT_.out (by kernel_rfl)) (by decide) (fun K hK => ?_)
        refine goes_ Try.func68 (by kernel_rfl) rfl #[.int .i64 a1] (by rfl) rfl rfl zm ?_
        with_reducible refine (corebankref01_size.calls a1 t358 _ A4.out).mono ?_
        rintro e w' ⟨rfl, ⟨nd, rfl⟩⟩
        refine ⟨_, rfl, ?_⟩
        refine hK.out _ _ ⟨(blk_cell BK357.out 0).trans rfl, (blk_cell BK357.out 1).trans rfl⟩ (fun hHeld => ?_)
        clear hK K
        refine norm_ (a' := ?_) ?_ ?_
        rotate_left
        · show Act.put _ (some 20) _ = _
          simp only [Act.put, List.setIfInBounds_toArray, List.set_cons_zero, List.set_cons_succ, i64_w, i32_w]
          rfl
        refine one_ (i := 3) (N := some 21) #[true, true, true, true, false, false, false, true, false, false] rfl rfl (one_of HT_.out (by kernel_rfl)) (by decide) (fun K hK => ?_)
        refine goes_ Try.func67 (by kernel_rfl) rfl #[.agg #[.int .u64 t355, .int .u64 t356], .int .u64 t358] (by rfl) rfl rfl zm ?_
        with_reducible refine (corebankref01_times.calls k t355 t356 t358 t359 t360 false _ A5.out).mono ?_
        rintro e w77 ⟨rfl, hb⟩
        refine ⟨_, rfl, ?_⟩
        replace BK352 := bb BK352 hb
        replace BK353 := bb BK353 hb
        replace BK357 := bb BK357 hb
        replace BK362 := bb BK362 hb
        replace HB := bs HB hb
        (try clear hb)
        (try clear hb2)
        (try clear hk)
        (try clear hi)
        refine hK.out _ _ ⟨(blk_cell BK357.out 0).trans rfl, (blk_cell BK357.out 1).trans rfl⟩ (fun hHeld => ?_)
        clear hK K
        refine norm_ (a' := ?_) ?_ ?_
        rotate_left
        · show Act.put _ (some 21) _ = _
          simp only [Act.put, List.setIfInBounds_toArray, List.set_cons_zero, List.set_cons_succ, i64_w, i32_w]
          rfl
        refine pz (i := 4) (N := some 17) #[true, true, true, true, true, false, false, true, false, false] rfl rfl (any_of HT_.out (by kernel_rfl)) (fun _ _ _ h => h) ?_
        refine pz (i := 5) (N := some 22) #[true, true, true, true, true, true, false, true, false, false] rfl rfl (any_of HT_.out (by kernel_rfl)) (fun _ _ _ h => h) ?_
        refine pz (i := 6) (N := some 23) #[true, true, true, true, true, true, true, true, false, false] rfl rfl (any_of HT_.out (by kernel_rfl)) (fun _ _ _ h => h) ?_
        exact norm_ (by simp only [putAll, Act.put, List.setIfInBounds_toArray, List.set_cons_zero, List.set_cons_succ]) (hCont (gb362) _ ⟨hHeld, (bq BK352), (bq BK353), (bq BK357), (bq BK362), GW362.out, GE362.out, NB352_362.out, NB362_352.out, NB353_362.out, NB362_353.out, NB357_362.out, NB362_357.out, (hq HB)⟩)
    rintro gb362 w78 ⟨hS_, h0_, h1_, h2_, h3_, h4_, h5_, h6_, h7_, h8_, h9_, h10_, h11_, h12_⟩
    have BK362 : Aside0 (w78.heap[gb362]? = some (.cells #[.int .u64 0, .int .u64 0] 89 (0, 0))) := ⟨h3_⟩
    have GW362 : Aside0 (w.heap.size ≤ gb362) := ⟨h4_⟩
    have GE362 : Aside0 (w.heap.size ≤ gb362) := ⟨h5_⟩
    have NB352_362 : Aside0 (gb352 ≠ gb362) := ⟨h6_⟩
    have NB362_352 : Aside0 (gb362 ≠ gb352) := ⟨h7_⟩
    have NB353_362 : Aside0 (gb353 ≠ gb362) := ⟨h8_⟩
    have NB362_353 : Aside0 (gb362 ≠ gb353) := ⟨h9_⟩
    have NB357_362 : Aside0 (gb357 ≠ gb362) := ⟨h10_⟩
    have NB362_357 : Aside0 (gb362 ≠ gb357) := ⟨h11_⟩
    replace BK352 : Aside0 (w78.heap[gb352]? = some (.cells #[.int .i64 a0_0, .int .u64 a0_1] 35 (0, 0))) := ⟨h0_⟩
    replace BK353 : Aside0 (w78.heap[gb353]? = some (.cells #[.int .i64 0, .int .u64 0] 35 (0, 0))) := ⟨h1_⟩
    replace BK357 : Aside0 (w78.heap[gb357]? = some (.cells #[.int .u64 t355, .int .u64 t356] 89 (0, 0))) := ⟨h2_⟩
    replace HB : Aside0 (Below w.heap.size w w78) := ⟨h12_⟩
    clear h0_ h1_ h2_ h3_ h4_ h5_ h6_ h7_ h8_ h9_ h10_ h11_ h12_
    have hHeld : w78.cell? ⟨gb357, 0, none⟩ = some (.int .u64 t355) ∧ w78.cell? ⟨gb357, 1, none⟩ = some (.int .u64 t356) := hS_
    refine norm_ (a' := ?_) ?_ ?_
    rotate_left
    · simp only [putAll, Act.put, List.setIfInBounds_toArray, List.set_cons_zero, List.set_cons_succ]
      rfl
    refine one_ (i := 8) (N := none) #[true, true, true, true, true, true, true, true, true, false] rfl rfl (one_of HT_.out (by kernel_rfl)) (by decide) (fun K hK => ?_)
    have hs79 : w78.cell? ⟨gb362, 0, none⟩ = some (.int .u64 0) := (blk_cell BK362.out 0).trans rfl
    have hfs79 := blk_frozen BK362.out 0
    have hns79_0 := NB352_362.out
    have hns79_1 := NB353_362.out
    have hns79_2 := NB357_362.out
    have hms79_0 := NB362_352.out
    have hms79_1 := NB362_353.out
    have hms79_2 := NB362_357.out
    have hs80 : w78.cell? ⟨gb362, 1, none⟩ = some (.int .u64 0) := (blk_cell BK362.out 1).trans rfl
    have hfs80 := blk_frozen BK362.out 1
    have hns80_0 := NB352_362.out
    have hns80_1 := NB353_362.out
    have hns80_2 := NB357_362.out
    have hms80_0 := NB362_352.out
    have hms80_1 := NB362_353.out
    have hms80_2 := NB362_357.out
    refine skip_ (w1 := ?_) (by rfl) rfl ?_ ?_
    rotate_left
    · go_simp
      rfl
    refine hK.out _ _ ⟨((cell_far (p := ⟨gb362, _, none⟩) NB357_362.out _).trans (((cell_far (p := ⟨gb362, _, none⟩) NB357_362.out _).trans (hHeld.1)))), ((cell_far (p := ⟨gb362, _, none⟩) NB357_362.out _).trans (((cell_far (p := ⟨gb362, _, none⟩) NB357_362.out _).trans (hHeld.2))))⟩ (fun hHeld => ?_)
    clear hK K
    refine pz (i := 9) (N := some 9) #[true, true, true, true, true, true, true, true, true, true] rfl rfl (any_of HT_.out (by kernel_rfl)) (fun _ _ _ h => h) ?_
    refine done_ (done_of HT_.out (by kernel_rfl)) ?_
    have hnb81 := NB362_352.out
    have hnc81 := NB352_362.out
    have hnb82 := NB362_353.out
    have hnc82 := NB353_362.out
    have hnb83 := NB362_357.out
    have hnc83 := NB357_362.out
    obtain ⟨hcz84_0, hcz84_1, hfz84_0, hfz84_1⟩ := cz2 BK362
    try go_wp2_with (first | ((with_reducible refine gate_callee (f := 69) rfl ?_); refine goesL_ (some 30) rfl rfl Try.func69 (by kernel_rfl) rfl #[.bool (t354 != (decide (a1 < 0))), .agg #[.int .u64 t359, .int .u64 t360]] rfl zm ?_; (with_reducible refine (corebankref01_Join.calls (t354 != (decide (a1 < 0))) t359 t360 t363 t364 t365 _ A6.out).mono ?_); rintro e w85 ⟨rfl, hb⟩; refine ⟨_, rfl, ?_⟩; replace BK352 := bb BK352 hb; replace BK353 := bb BK353 hb; replace BK357 := bb BK357 hb; replace BK362 := bpb BK362 hb #[.int .u64 t359, .int .u64 t360]; replace HB := bs HB hb; (try clear hb); (try clear hb2); (try clear hk); (try clear hi)) | ((with_reducible refine gate_dst (N := 10) rfl ?_); refine box_event ?hg (N := 10) ?hd (cs := #[.int .i64 0, .int .u64 0]) (t := 35) ?hr ?_; (case hd => rfl); (case hg => rfl); (case hr => first | (go_simp; done) | (go_simp; rfl)); intro gb366 hg w86 hbox hb; have BK366 := Aside0.mk (hbox); have GW366 := ge HB hg; have GE366 := ge HB hg; have NB352_366 := nl BK352 hg; have NB366_352 := ng NB352_366; have NB353_366 := nl BK353 hg; have NB366_353 := ng NB353_366; have NB357_366 := nl BK357 hg; have NB366_357 := ng NB357_366; have NB362_366 := nl BK362 hg; have NB366_362 := ng NB362_366; replace BK352 := bb BK352 hb; replace BK353 := bb BK353 hb; replace BK357 := bb BK357 hb; replace BK362 := bb BK362 hb; replace HB := bs HB hb; clear hb hbox hg; have hnb87 := NB366_352.out; have hnc87 := NB352_366.out; have hnb88 := NB366_353.out; have hnc88 := NB353_366.out; have hnb89 := NB366_357.out; have hnc89 := NB357_366.out; have hnb90 := NB366_362.out; have hnc90 := NB362_366.out; obtain ⟨hcz91_0, hcz91_1, hfz91_0, hfz91_1⟩ := cz2 BK366; obtain ⟨hcz92_0, hcz92_1, hfz92_0, hfz92_1⟩ := cz2 BK353))
    refine bodyPost_ret (results_ct rfl _ _ gb353 35 #[.int .i64 0, .int .u64 0] (0, 0) _ rfl (bp BK353) Try.underlying35 rfl (by kernel_rfl)) rfl ?_
    exact ⟨by first | rfl | (simp [errW_none, errW_some] <;> rfl) | (simp [*, errW_none, errW_some] <;> rfl), hq HB⟩

end Go.Proofs.Ytlmabdiodopidaa.P
end
section
set_option linter.unusedVariables false
set_option linter.unusedSimpArgs false
namespace Go.Proofs.Ytlmabdiodopidaa.P
open Go.Proofs.Ytlmabdiodopidaa.G
attribute [local go_sem high] un_not64 un_noti run_add64
open Go.RowKit Go.Proofs.YtlmabdiodopidaaW.PrintWords Go.Proofs.YtlmabdiodopidaaW.PrintLast Go.Proofs.YtlmabdiodopidaaW.PrintMore
attribute [local go_sem] max2_int min2_int max_two min_two max_three min_three max_four min_four   -- for this text's walks alone
set_option linter.unusedVariables false
set_option linter.unusedSimpArgs false

/-! ### corebankref01_Mul: function 47 -/
def corebankref01_Mul.f (k : Nat) (a0 : Int) (a1 : Int) : Option (Int × Int) := (corebankref01_Of.f a0).bind fun bt368 => ((corebankref01_Scale.f k bt368.1 bt368.2 a1).bind fun bt370 => (some (bt370.1, bt370.2.1)))
theorem corebankref01_Mul.mono : ∀ a0 a1 k, LeO (corebankref01_Mul.f k a0 a1) (corebankref01_Mul.f (k + 1) a0 a1) := by
  intro a0 a1 k
  unfold corebankref01_Mul.f
  repeat' first
      | (with_reducible exact corebankref01_Scale.mono _ _ _ _)
      | (with_reducible exact LeO.refl _)
      | (with_reducible exact LeO.none _)
      | (with_reducible refine LeO.ite ?_ ?_)
      | (with_reducible refine LeO.bind ?_ (fun _ => ?_))
      | exact corebankref01_Scale.mono _ _ _ _
      | exact LeO.none _
      | refine LeO.ite ?_ ?_
      | refine LeO.bind ?_ (fun _ => ?_)
set_option maxHeartbeats 8000000 in
set_option maxRecDepth 100000 in
theorem corebankref01_Mul.calls (k : Nat) (a0 : Int) (a1 : Int) (r1 : Int) (r2 : Int) (w : World) (h : corebankref01_Mul.f k a0 a1 = some (r1, r2)) :
    Calls Try.prog 47 #[.int .i64 a0, .int .i64 a1] w fun e w' => e = .returned (.agg #[.int .i64 r1, .int .u64 r2]) ∧ Below w.heap.size w w' := by
  have hu35 := Try.underlying35
  have HB := Aside0.mk (Below.refl w.heap.size w)
  have H : ((corebankref01_Of.f a0).bind fun bt368 => ((corebankref01_Scale.f k bt368.1 bt368.2 a1).bind fun bt370 => (some (bt370.1, bt370.2.1)))) = some (r1, r2) := h
  clear h
  replace H := Option.bind_eq_some_iff.mp H
  obtain ⟨⟨t368, t369⟩, A30, H⟩ := H
  replace H : ((corebankref01_Scale.f k t368 t369 a1).bind fun bt370 => (some (bt370.1, bt370.2.1))) = some (r1, r2) := H
  have A3 := Aside0.mk A30
  clear A30
  replace H := Option.bind_eq_some_iff.mp H
  obtain ⟨⟨t370, t371, t372⟩, A40, H⟩ := H
  replace H : (some (t370, t371)) = some (r1, r2) := H
  have A4 := Aside0.mk A40
  clear A40
  simp only [Option.some.injEq, Prod.mk.injEq] at H
  obtain ⟨rfl, rfl⟩ := H
  go_enter Try.func47, Try.ntmps47
  go_wp2_with (first | ((with_reducible refine gate_dst (N := 4) rfl ?_); refine box_event ?hg (N := 4) ?hd (cs := #[.int .i64 0, .int .u64 0]) (t := 35) ?hr ?_; (case hd => rfl); (case hg => rfl); (case hr => first | (go_simp; done) | (go_simp; rfl)); intro gb367 hg w5 hbox hb; have BK367 := Aside0.mk (hbox); have GW367 := ge HB hg; have GE367 := ge HB hg; replace HB := bs HB hb; clear hb hbox hg) | ((with_reducible refine gate_callee (f := 41) rfl ?_); refine goesL_ (some 9) rfl rfl Try.func41 (by kernel_rfl) rfl #[.int .i64 a0] rfl zm ?_; (with_reducible refine (corebankref01_Of.calls a0 t368 t369 _ A3.out).mono ?_); rintro e w6 ⟨rfl, hb⟩; refine ⟨_, rfl, ?_⟩; replace BK367 := bb BK367 hb; replace HB := bs HB hb; (try clear hb); (try clear hb2); (try clear hk); (try clear hi)) | ((with_reducible refine gate_callee (f := 46) rfl ?_); refine goesL_ (some 11) rfl rfl Try.func46 (by kernel_rfl) rfl #[.agg #[.int .i64 t368, .int .u64 t369], .int .i64 a1] rfl zm ?_; (with_reducible refine (corebankref01_Scale.calls k t368 t369 a1 t370 t371 t372 _ A4.out).mono ?_); rintro e w7 ⟨rfl, hb⟩; refine ⟨_, rfl, ?_⟩; replace BK367 := bb BK367 hb; replace HB := bs HB hb; (try clear hb); (try clear hb2); (try clear hk); (try clear hi)) | ((with_reducible refine gate_dst (N := 5) rfl ?_); refine box_event ?hg (N := 5) ?hd (cs := #[.int .i64 0, .int .u64 0]) (t := 35) ?hr ?_; (case hd => rfl); (case hg => rfl); (case hr => first | (go_simp; done) | (go_simp; rfl)); intro gb373 hg w8 hbox hb; have BK373 := Aside0.mk (hbox); have GW373 := ge HB hg; have GE373 := ge HB hg; have NB367_373 := nl BK367 hg; have NB373_367 := ng NB367_373; replace BK367 := bb BK367 hb; replace HB := bs HB hb; clear hb hbox hg; have hnb9 := NB373_367.out; have hnc9 := NB367_373.out; obtain ⟨hcz10_0, hcz10_1, hfz10_0, hfz10_1⟩ := cz2 BK373; obtain ⟨hcz11_0, hcz11_1, hfz11_0, hfz11_1⟩ := cz2 BK367))
  refine bodyPost_ret (results_cell_row rfl _ _ gb367 35 #[.int .i64 t370, .int .u64 t371] (0, 0) _ rfl (bp BK367) Try.underlying35 rfl (by kernel_rfl)) rfl ?_
  exact ⟨by first | rfl | (simp [errW_none, errW_some] <;> rfl) | (simp [*, errW_none, errW_some] <;> rfl), hq HB⟩

end Go.Proofs.Ytlmabdiodopidaa.P
end
