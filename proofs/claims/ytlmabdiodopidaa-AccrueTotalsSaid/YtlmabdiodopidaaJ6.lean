/- Texts of this seat, joined: Qx2, Qx3, Smp, Clone, Px11, Px13. Lemmas for the claim's theorem. -/
import Derived.Shelf.SlicesE.Clone
import Derived.Test.YtlmabdiodopidaaJ5
section
namespace Go.Proofs.Ytlmabdiodopidaa.Q
open Go.Proofs.Ytlmabdiodopidaa.G
attribute [local go_sem high] un_not64 un_noti run_add64
open Go.RowKit Go.Proofs.YtlmabdiodopidaaW.PrintWords Go.Proofs.YtlmabdiodopidaaW.PrintLast Go.Proofs.YtlmabdiodopidaaW.PrintMore
attribute [local go_sem] max2_int min2_int max_two min_two max_three min_three max_four min_four   -- for this text's walks alone
set_option linter.unusedVariables false
set_option linter.unusedSimpArgs false

/-! ### corebankref08_Seal: function 85 -/
def corebankref08_Seal.j0 : Nat → ByteArray → Bool → Option (ByteArray × Int)
  | 0, _, _ => none
  | k + 1, x0, x12 => if x12 = true then (some ((⟨#[]⟩ : ByteArray), 5)) else ((corebankref08_Plain.f k x0).bind fun t101 => (if t101 = true then (if x0.size + 2 ≤ 9223372036854775807 then ((corebankref08_rest.f k (x0 ++ (⟨#[48, 48]⟩ : ByteArray))).bind fun t102 => (if 0 ≤ (wrap64 (Int.tdiv (wrap64 (98 - t102)) 10)) then (if (wrap64 (Int.tdiv (wrap64 (98 - t102)) 10)) ≤ (wrap64 ((wrap64 (Int.tdiv (wrap64 (98 - t102)) 10)) + 1)) then (if (wrap64 ((wrap64 (Int.tdiv (wrap64 (98 - t102)) 10)) + 1)) ≤ 10 then (if x0.size + ((⟨#[48, 49, 50, 51, 52, 53, 54, 55, 56, 57]⟩ : ByteArray).extract ((wrap64 (Int.tdiv (wrap64 (98 - t102)) 10)) : Int).toNat ((wrap64 ((wrap64 (Int.tdiv (wrap64 (98 - t102)) 10)) + 1)) : Int).toNat).size ≤ 9223372036854775807 then (if 0 ≤ (Int.tmod (wrap64 (98 - t102)) 10) then (if (Int.tmod (wrap64 (98 - t102)) 10) ≤ (wrap64 ((Int.tmod (wrap64 (98 - t102)) 10) + 1)) then (if (wrap64 ((Int.tmod (wrap64 (98 - t102)) 10) + 1)) ≤ 10 then (if (x0 ++ ((⟨#[48, 49, 50, 51, 52, 53, 54, 55, 56, 57]⟩ : ByteArray).extract ((wrap64 (Int.tdiv (wrap64 (98 - t102)) 10)) : Int).toNat ((wrap64 ((wrap64 (Int.tdiv (wrap64 (98 - t102)) 10)) + 1)) : Int).toNat)).size + ((⟨#[48, 49, 50, 51, 52, 53, 54, 55, 56, 57]⟩ : ByteArray).extract ((Int.tmod (wrap64 (98 - t102)) 10) : Int).toNat ((wrap64 ((Int.tmod (wrap64 (98 - t102)) 10) + 1)) : Int).toNat).size ≤ 9223372036854775807 then (some ((x0 ++ ((⟨#[48, 49, 50, 51, 52, 53, 54, 55, 56, 57]⟩ : ByteArray).extract ((wrap64 (Int.tdiv (wrap64 (98 - t102)) 10)) : Int).toNat ((wrap64 ((wrap64 (Int.tdiv (wrap64 (98 - t102)) 10)) + 1)) : Int).toNat)) ++ ((⟨#[48, 49, 50, 51, 52, 53, 54, 55, 56, 57]⟩ : ByteArray).extract ((Int.tmod (wrap64 (98 - t102)) 10) : Int).toNat ((wrap64 ((Int.tmod (wrap64 (98 - t102)) 10) + 1)) : Int).toNat), 0)) else (none)) else (none)) else (none)) else (none)) else (none)) else (none)) else (none)) else (none))) else (none)) else (some ((⟨#[]⟩ : ByteArray), 2))))
def corebankref08_Seal.f (k : Nat) (a0 : ByteArray) : Option (ByteArray × Int) := if (a0.size : Int) < 1 then (corebankref08_Seal.j0 k a0 true) else (corebankref08_Seal.j0 k a0 (decide ((a0.size : Int) > 46)))
theorem corebankref08_Seal.mono_l : ∀ k, (∀ y0 y1, LeO (corebankref08_Seal.j0 k y0 y1) (corebankref08_Seal.j0 (k + 1) y0 y1))
  | 0 => fun _ _ r h => by simp [corebankref08_Seal.j0] at h
  | k + 1 => by
    have ih0 := corebankref08_Seal.mono_l k
    · intro y0 y1
      unfold corebankref08_Seal.j0
      repeat' first
      | (with_reducible exact ih0 _ _)
      | (with_reducible exact corebankref08_Plain.mono _ _)
      | (with_reducible exact corebankref08_rest.mono _ _)
      | (with_reducible exact LeO.refl _)
      | (with_reducible exact LeO.none _)
      | (with_reducible refine LeO.ite ?_ ?_)
      | (with_reducible refine LeO.bind ?_ (fun _ => ?_))
      | exact ih0 _ _
      | exact corebankref08_Plain.mono _ _
      | exact corebankref08_rest.mono _ _
      | exact LeO.none _
      | refine LeO.ite ?_ ?_
      | refine LeO.bind ?_ (fun _ => ?_)
theorem corebankref08_Seal.mono : ∀ a0 k, LeO (corebankref08_Seal.f k a0) (corebankref08_Seal.f (k + 1) a0) := by
  intro a0 k
  have ih0 := corebankref08_Seal.mono_l k
  unfold corebankref08_Seal.f
  repeat' first
      | (with_reducible exact ih0 _ _)
      | (with_reducible exact corebankref08_Plain.mono _ _)
      | (with_reducible exact corebankref08_rest.mono _ _)
      | (with_reducible exact LeO.refl _)
      | (with_reducible exact LeO.none _)
      | (with_reducible refine LeO.ite ?_ ?_)
      | (with_reducible refine LeO.bind ?_ (fun _ => ?_))
      | exact ih0 _ _
      | exact corebankref08_Plain.mono _ _
      | exact corebankref08_rest.mono _ _
      | exact LeO.none _
      | refine LeO.ite ?_ ?_
      | refine LeO.bind ?_ (fun _ => ?_)
set_option maxHeartbeats 8000000 in
set_option maxRecDepth 100000 in
theorem corebankref08_Seal.calls (k : Nat) (a0 : ByteArray) (r1 : ByteArray) (r2 : Int) (w : World) (h : corebankref08_Seal.f k a0 = some (r1, r2)) :
    Calls Try.prog 85 #[.string a0] w fun e w' => e = .returned (.tuple #[.string r1, .int .i64 r2]) ∧ Drawn0 w w' := by
  have H : (if (a0.size : Int) < 1 then (corebankref08_Seal.j0 k a0 true) else (corebankref08_Seal.j0 k a0 (decide ((a0.size : Int) > 46)))) = some (r1, r2) := h
  clear h
  have HC2 := Aside0.mk H
  clear H
  go_enter Try.func85, Try.ntmps85
  go_upto_region 1 with (fail)
  repeat (go_quiet (fail); go_upto_region 1 with (fail))
  go_cut [12] (fun v12 wc => ∃ (kq : Nat) (x12_1 : Bool), v12 = .bool x12_1 ∧ Aside0 (corebankref08_Seal.j0 kq a0 x12_1 = some (r1, r2)) ∧ Aside0 (kq ≤ k) ∧ Drawn0 w wc)
  case first =>
    have H := HC2.out
    clear HC2
    by_cases c3 : (a0.size : Int) < 1
    · rw [if_pos c3] at H
      have c3b0 : decide ((a0.size : Int) < 1) = true := decide_eq_true c3
      have c3b1 : decide (a0.size < 1) = true := decide_eq_true (by omega)
      clear c3
      (first | rw [c3b0] | (simp only [i64_w, i32_w]; rw [c3b0]) | skip)
      have H' := Aside0.mk H
      clear H
      go_wp2
      repeat (go_quiet (fail); try go_wp2)
      go_meet
      case rel => exact ⟨_, (true), (by first | rfl | (simp; done) | (simp [*]; done)), H', ⟨by first | omega | exact Nat.le_refl _⟩, by repeat (first | exact Drawn0.refl _ | apply Drawn0.step)⟩
    · rw [if_neg c3] at H
      have c3b0 : decide ((a0.size : Int) < 1) = false := decide_eq_false c3
      have c3b1 : decide (a0.size < 1) = false := decide_eq_false (by omega)
      clear c3
      (first | rw [c3b0] | (simp only [i64_w, i32_w]; rw [c3b0]) | skip)
      have H' := Aside0.mk H
      clear H
      go_wp2
      repeat (go_quiet (fail); try go_wp2)
      go_meet
      case rel => exact ⟨_, (decide ((a0.size : Int) > 46)), (by first | rfl | (simp; done) | (simp [*]; done)), H', ⟨by first | omega | exact Nat.le_refl _⟩, by repeat (first | exact Drawn0.refl _ | apply Drawn0.step)⟩
  case rest =>
    clear HC2
    try clear p2
    try clear c3
    try clear c3b0
    try clear c3b1
    obtain ⟨kq, x12_1, rfl, HA, HJ1, ⟨mc1, rfl⟩⟩ := hcut
    cases kq with
    | zero => exact absurd HA.out (by simp [corebankref08_Seal.j0])
    | succ kj1 =>
      have H := HA.out
      clear HA
      simp only [corebankref08_Seal.j0] at H
      by_cases c4 : x12_1 = true
      · subst c4
        have H1 : (some ((⟨#[]⟩ : ByteArray), 5)) = some (r1, r2) := by rw [if_pos rfl] at H; exact H
        clear H
        have H := H1
        clear H1
        simp only [Option.some.injEq, Prod.mk.injEq] at H
        obtain ⟨rfl, rfl⟩ := H
        go_wp2
        repeat (go_quiet (fail); try go_wp2)
        go_ret2
        exact ⟨by first | rfl | (simp; done) | (simp [*]; done), by repeat (first | exact Drawn0.refl _ | apply Drawn0.step)⟩
      · replace c4 := Bool.eq_false_iff.mpr c4
        subst c4
        have H1 : ((corebankref08_Plain.f kj1 a0).bind fun t101 => (if t101 = true then (if a0.size + 2 ≤ 9223372036854775807 then ((corebankref08_rest.f kj1 (a0 ++ (⟨#[48, 48]⟩ : ByteArray))).bind fun t102 => (if 0 ≤ (wrap64 (Int.tdiv (wrap64 (98 - t102)) 10)) then (if (wrap64 (Int.tdiv (wrap64 (98 - t102)) 10)) ≤ (wrap64 ((wrap64 (Int.tdiv (wrap64 (98 - t102)) 10)) + 1)) then (if (wrap64 ((wrap64 (Int.tdiv (wrap64 (98 - t102)) 10)) + 1)) ≤ 10 then (if a0.size + ((⟨#[48, 49, 50, 51, 52, 53, 54, 55, 56, 57]⟩ : ByteArray).extract ((wrap64 (Int.tdiv (wrap64 (98 - t102)) 10)) : Int).toNat ((wrap64 ((wrap64 (Int.tdiv (wrap64 (98 - t102)) 10)) + 1)) : Int).toNat).size ≤ 9223372036854775807 then (if 0 ≤ (Int.tmod (wrap64 (98 - t102)) 10) then (if (Int.tmod (wrap64 (98 - t102)) 10) ≤ (wrap64 ((Int.tmod (wrap64 (98 - t102)) 10) + 1)) then (if (wrap64 ((Int.tmod (wrap64 (98 - t102)) 10) + 1)) ≤ 10 then (if (a0 ++ ((⟨#[48, 49, 50, 51, 52, 53, 54, 55, 56, 57]⟩ : ByteArray).extract ((wrap64 (Int.tdiv (wrap64 (98 - t102)) 10)) : Int).toNat ((wrap64 ((wrap64 (Int.tdiv (wrap64 (98 - t102)) 10)) + 1)) : Int).toNat)).size + ((⟨#[48, 49, 50, 51, 52, 53, 54, 55, 56, 57]⟩ : ByteArray).extract ((Int.tmod (wrap64 (98 - t102)) 10) : Int).toNat ((wrap64 ((Int.tmod (wrap64 (98 - t102)) 10) + 1)) : Int).toNat).size ≤ 9223372036854775807 then (some ((a0 ++ ((⟨#[48, 49, 50, 51, 52, 53, 54, 55, 56, 57]⟩ : ByteArray).extract ((wrap64 (Int.tdiv (wrap64 (98 - t102)) 10)) : Int).toNat ((wrap64 ((wrap64 (Int.tdiv (wrap64 (98 - t102)) 10)) + 1)) : Int).toNat)) ++ ((⟨#[48, 49, 50, 51, 52, 53, 54, 55, 56, 57]⟩ : ByteArray).extract ((Int.tmod (wrap64 (98 - t102)) 10) : Int).toNat ((wrap64 ((Int.tmod (wrap64 (98 - t102)) 10) + 1)) : Int).toNat), 0)) else (none)) else (none)) else (none)) else (none)) else (none)) else (none)) else (none)) else (none))) else (none)) else (some ((⟨#[]⟩ : ByteArray), 2)))) = some (r1, r2) := by rw [if_neg (show ¬ (false = true) by decide)] at H; exact H
        clear H
        have H := H1
        clear H1
        replace H := Option.bind_eq_some_iff.mp H
        obtain ⟨t101, A50, H⟩ := H
        replace H : (if t101 = true then (if a0.size + 2 ≤ 9223372036854775807 then ((corebankref08_rest.f kj1 (a0 ++ (⟨#[48, 48]⟩ : ByteArray))).bind fun t102 => (if 0 ≤ (wrap64 (Int.tdiv (wrap64 (98 - t102)) 10)) then (if (wrap64 (Int.tdiv (wrap64 (98 - t102)) 10)) ≤ (wrap64 ((wrap64 (Int.tdiv (wrap64 (98 - t102)) 10)) + 1)) then (if (wrap64 ((wrap64 (Int.tdiv (wrap64 (98 - t102)) 10)) + 1)) ≤ 10 then (if a0.size + ((⟨#[48, 49, 50, 51, 52, 53, 54, 55, 56, 57]⟩ : ByteArray).extract ((wrap64 (Int.tdiv (wrap64 (98 - t102)) 10)) : Int).toNat ((wrap64 ((wrap64 (Int.tdiv (wrap64 (98 - t102)) 10)) + 1)) : Int).toNat).size ≤ 9223372036854775807 then (if 0 ≤ (Int.tmod (wrap64 (98 - t102)) 10) then (if (Int.tmod (wrap64 (98 - t102)) 10) ≤ (wrap64 ((Int.tmod (wrap64 (98 - t102)) 10) + 1)) then (if (wrap64 ((Int.tmod (wrap64 (98 - t102)) 10) + 1)) ≤ 10 then (if (a0 ++ ((⟨#[48, 49, 50, 51, 52, 53, 54, 55, 56, 57]⟩ : ByteArray).extract ((wrap64 (Int.tdiv (wrap64 (98 - t102)) 10)) : Int).toNat ((wrap64 ((wrap64 (Int.tdiv (wrap64 (98 - t102)) 10)) + 1)) : Int).toNat)).size + ((⟨#[48, 49, 50, 51, 52, 53, 54, 55, 56, 57]⟩ : ByteArray).extract ((Int.tmod (wrap64 (98 - t102)) 10) : Int).toNat ((wrap64 ((Int.tmod (wrap64 (98 - t102)) 10) + 1)) : Int).toNat).size ≤ 9223372036854775807 then (some ((a0 ++ ((⟨#[48, 49, 50, 51, 52, 53, 54, 55, 56, 57]⟩ : ByteArray).extract ((wrap64 (Int.tdiv (wrap64 (98 - t102)) 10)) : Int).toNat ((wrap64 ((wrap64 (Int.tdiv (wrap64 (98 - t102)) 10)) + 1)) : Int).toNat)) ++ ((⟨#[48, 49, 50, 51, 52, 53, 54, 55, 56, 57]⟩ : ByteArray).extract ((Int.tmod (wrap64 (98 - t102)) 10) : Int).toNat ((wrap64 ((Int.tmod (wrap64 (98 - t102)) 10) + 1)) : Int).toNat), 0)) else (none)) else (none)) else (none)) else (none)) else (none)) else (none)) else (none)) else (none))) else (none)) else (some ((⟨#[]⟩ : ByteArray), 2))) = some (r1, r2) := H
        have A5 := Aside0.mk A50
        clear A50
        by_cases c6 : t101 = true
        · subst c6
          have H1 : (if a0.size + 2 ≤ 9223372036854775807 then ((corebankref08_rest.f kj1 (a0 ++ (⟨#[48, 48]⟩ : ByteArray))).bind fun t102 => (if 0 ≤ (wrap64 (Int.tdiv (wrap64 (98 - t102)) 10)) then (if (wrap64 (Int.tdiv (wrap64 (98 - t102)) 10)) ≤ (wrap64 ((wrap64 (Int.tdiv (wrap64 (98 - t102)) 10)) + 1)) then (if (wrap64 ((wrap64 (Int.tdiv (wrap64 (98 - t102)) 10)) + 1)) ≤ 10 then (if a0.size + ((⟨#[48, 49, 50, 51, 52, 53, 54, 55, 56, 57]⟩ : ByteArray).extract ((wrap64 (Int.tdiv (wrap64 (98 - t102)) 10)) : Int).toNat ((wrap64 ((wrap64 (Int.tdiv (wrap64 (98 - t102)) 10)) + 1)) : Int).toNat).size ≤ 9223372036854775807 then (if 0 ≤ (Int.tmod (wrap64 (98 - t102)) 10) then (if (Int.tmod (wrap64 (98 - t102)) 10) ≤ (wrap64 ((Int.tmod (wrap64 (98 - t102)) 10) + 1)) then (if (wrap64 ((Int.tmod (wrap64 (98 - t102)) 10) + 1)) ≤ 10 then (if (a0 ++ ((⟨#[48, 49, 50, 51, 52, 53, 54, 55, 56, 57]⟩ : ByteArray).extract ((wrap64 (Int.tdiv (wrap64 (98 - t102)) 10)) : Int).toNat ((wrap64 ((wrap64 (Int.tdiv (wrap64 (98 - t102)) 10)) + 1)) : Int).toNat)).size + ((⟨#[48, 49, 50, 51, 52, 53, 54, 55, 56, 57]⟩ : ByteArray).extract ((Int.tmod (wrap64 (98 - t102)) 10) : Int).toNat ((wrap64 ((Int.tmod (wrap64 (98 - t102)) 10) + 1)) : Int).toNat).size ≤ 9223372036854775807 then (some ((a0 ++ ((⟨#[48, 49, 50, 51, 52, 53, 54, 55, 56, 57]⟩ : ByteArray).extract ((wrap64 (Int.tdiv (wrap64 (98 - t102)) 10)) : Int).toNat ((wrap64 ((wrap64 (Int.tdiv (wrap64 (98 - t102)) 10)) + 1)) : Int).toNat)) ++ ((⟨#[48, 49, 50, 51, 52, 53, 54, 55, 56, 57]⟩ : ByteArray).extract ((Int.tmod (wrap64 (98 - t102)) 10) : Int).toNat ((wrap64 ((Int.tmod (wrap64 (98 - t102)) 10) + 1)) : Int).toNat), 0)) else (none)) else (none)) else (none)) else (none)) else (none)) else (none)) else (none)) else (none))) else (none)) = some (r1, r2) := by rw [if_pos rfl] at H; exact H
          clear H
          have H := H1
          clear H1
          by_cases c7 : a0.size + 2 ≤ 9223372036854775807
          · rw [if_pos c7] at H
            have c7b0 := eq_true c7
            have c7b1 : decide (a0.size + 2 ≤ 9223372036854775807) = true := decide_eq_true c7
            try have c7b2 : (9223372036854775807 < a0.size + 2) = False := eq_false (Nat.not_lt.2 c7)
            replace H := Option.bind_eq_some_iff.mp H
            obtain ⟨t102, A80, H⟩ := H
            replace H : (if 0 ≤ (wrap64 (Int.tdiv (wrap64 (98 - t102)) 10)) then (if (wrap64 (Int.tdiv (wrap64 (98 - t102)) 10)) ≤ (wrap64 ((wrap64 (Int.tdiv (wrap64 (98 - t102)) 10)) + 1)) then (if (wrap64 ((wrap64 (Int.tdiv (wrap64 (98 - t102)) 10)) + 1)) ≤ 10 then (if a0.size + ((⟨#[48, 49, 50, 51, 52, 53, 54, 55, 56, 57]⟩ : ByteArray).extract ((wrap64 (Int.tdiv (wrap64 (98 - t102)) 10)) : Int).toNat ((wrap64 ((wrap64 (Int.tdiv (wrap64 (98 - t102)) 10)) + 1)) : Int).toNat).size ≤ 9223372036854775807 then (if 0 ≤ (Int.tmod (wrap64 (98 - t102)) 10) then (if (Int.tmod (wrap64 (98 - t102)) 10) ≤ (wrap64 ((Int.tmod (wrap64 (98 - t102)) 10) + 1)) then (if (wrap64 ((Int.tmod (wrap64 (98 - t102)) 10) + 1)) ≤ 10 then (if (a0 ++ ((⟨#[48, 49, 50, 51, 52, 53, 54, 55, 56, 57]⟩ : ByteArray).extract ((wrap64 (Int.tdiv (wrap64 (98 - t102)) 10)) : Int).toNat ((wrap64 ((wrap64 (Int.tdiv (wrap64 (98 - t102)) 10)) + 1)) : Int).toNat)).size + ((⟨#[48, 49, 50, 51, 52, 53, 54, 55, 56, 57]⟩ : ByteArray).extract ((Int.tmod (wrap64 (98 - t102)) 10) : Int).toNat ((wrap64 ((Int.tmod (wrap64 (98 - t102)) 10) + 1)) : Int).toNat).size ≤ 9223372036854775807 then (some ((a0 ++ ((⟨#[48, 49, 50, 51, 52, 53, 54, 55, 56, 57]⟩ : ByteArray).extract ((wrap64 (Int.tdiv (wrap64 (98 - t102)) 10)) : Int).toNat ((wrap64 ((wrap64 (Int.tdiv (wrap64 (98 - t102)) 10)) + 1)) : Int).toNat)) ++ ((⟨#[48, 49, 50, 51, 52, 53, 54, 55, 56, 57]⟩ : ByteArray).extract ((Int.tmod (wrap64 (98 - t102)) 10) : Int).toNat ((wrap64 ((Int.tmod (wrap64 (98 - t102)) 10) + 1)) : Int).toNat), 0)) else (none)) else (none)) else (none)) else (none)) else (none)) else (none)) else (none)) else (none)) = some (r1, r2) := H
            have A8 := Aside0.mk A80
            clear A80
            obtain ⟨ji9, hji9⟩ : ∃ j_ : Int, (wrap64 (Int.tdiv (wrap64 (98 - t102)) 10)) = j_ := ⟨_, rfl⟩
            replace H : (if 0 ≤ (ji9) then (if (ji9) ≤ (wrap64 ((ji9) + 1)) then (if (wrap64 ((ji9) + 1)) ≤ 10 then (if a0.size + ((⟨#[48, 49, 50, 51, 52, 53, 54, 55, 56, 57]⟩ : ByteArray).extract ((ji9) : Int).toNat ((wrap64 ((ji9) + 1)) : Int).toNat).size ≤ 9223372036854775807 then (if 0 ≤ (Int.tmod (wrap64 (98 - t102)) 10) then (if (Int.tmod (wrap64 (98 - t102)) 10) ≤ (wrap64 ((Int.tmod (wrap64 (98 - t102)) 10) + 1)) then (if (wrap64 ((Int.tmod (wrap64 (98 - t102)) 10) + 1)) ≤ 10 then (if (a0 ++ ((⟨#[48, 49, 50, 51, 52, 53, 54, 55, 56, 57]⟩ : ByteArray).extract ((ji9) : Int).toNat ((wrap64 ((ji9) + 1)) : Int).toNat)).size + ((⟨#[48, 49, 50, 51, 52, 53, 54, 55, 56, 57]⟩ : ByteArray).extract ((Int.tmod (wrap64 (98 - t102)) 10) : Int).toNat ((wrap64 ((Int.tmod (wrap64 (98 - t102)) 10) + 1)) : Int).toNat).size ≤ 9223372036854775807 then (some ((a0 ++ ((⟨#[48, 49, 50, 51, 52, 53, 54, 55, 56, 57]⟩ : ByteArray).extract ((ji9) : Int).toNat ((wrap64 ((ji9) + 1)) : Int).toNat)) ++ ((⟨#[48, 49, 50, 51, 52, 53, 54, 55, 56, 57]⟩ : ByteArray).extract ((Int.tmod (wrap64 (98 - t102)) 10) : Int).toNat ((wrap64 ((Int.tmod (wrap64 (98 - t102)) 10) + 1)) : Int).toNat), 0)) else (none)) else (none)) else (none)) else (none)) else (none)) else (none)) else (none)) else (none)) = some (r1, r2) := by first | (rw [hji9] at H; exact H) | (simp only [hji9] at H ⊢; exact H)
            (try rw [hji9] at A5)
            (try rw [hji9] at A8)
            have hji9w : (IntKind.i64.wrap (Int.tdiv (wrap64 (98 - t102)) 10)) = ji9 := (i64_w _).trans hji9
            by_cases c10 : 0 ≤ (ji9)
            · rw [if_pos c10] at H
              have c10b0 := eq_true c10
              have c10b1 : decide (0 ≤ (ji9)) = true := decide_eq_true c10
              clear c10
              by_cases c11 : (ji9) ≤ (wrap64 ((ji9) + 1))
              · rw [if_pos c11] at H
                have c11b0 := eq_true c11
                have c11b1 : decide ((ji9) ≤ (wrap64 ((ji9) + 1))) = true := decide_eq_true c11
                by_cases c12 : (wrap64 ((ji9) + 1)) ≤ 10
                · rw [if_pos c12] at H
                  have c12b0 := eq_true c12
                  have c12b1 : decide ((wrap64 ((ji9) + 1)) ≤ 10) = true := decide_eq_true c12
                  by_cases c13 : a0.size + ((⟨#[48, 49, 50, 51, 52, 53, 54, 55, 56, 57]⟩ : ByteArray).extract ((ji9) : Int).toNat ((wrap64 ((ji9) + 1)) : Int).toNat).size ≤ 9223372036854775807
                  · rw [if_pos c13] at H
                    have c13b0 := eq_true c13
                    have c13b1 : decide (a0.size + ((⟨#[48, 49, 50, 51, 52, 53, 54, 55, 56, 57]⟩ : ByteArray).extract ((ji9) : Int).toNat ((wrap64 ((ji9) + 1)) : Int).toNat).size ≤ 9223372036854775807) = true := decide_eq_true c13
                    try have c13b2 : (9223372036854775807 < a0.size + ((⟨#[48, 49, 50, 51, 52, 53, 54, 55, 56, 57]⟩ : ByteArray).extract ((ji9) : Int).toNat ((wrap64 ((ji9) + 1)) : Int).toNat).size) = False := eq_false (Nat.not_lt.2 c13)
                    obtain ⟨ji14, hji14⟩ : ∃ j_ : Int, (Int.tmod (wrap64 (98 - t102)) 10) = j_ := ⟨_, rfl⟩
                    replace H : (if 0 ≤ (ji14) then (if (ji14) ≤ (wrap64 ((ji14) + 1)) then (if (wrap64 ((ji14) + 1)) ≤ 10 then (if (a0 ++ ((⟨#[48, 49, 50, 51, 52, 53, 54, 55, 56, 57]⟩ : ByteArray).extract ((ji9) : Int).toNat ((wrap64 ((ji9) + 1)) : Int).toNat)).size + ((⟨#[48, 49, 50, 51, 52, 53, 54, 55, 56, 57]⟩ : ByteArray).extract ((ji14) : Int).toNat ((wrap64 ((ji14) + 1)) : Int).toNat).size ≤ 9223372036854775807 then (some ((a0 ++ ((⟨#[48, 49, 50, 51, 52, 53, 54, 55, 56, 57]⟩ : ByteArray).extract ((ji9) : Int).toNat ((wrap64 ((ji9) + 1)) : Int).toNat)) ++ ((⟨#[48, 49, 50, 51, 52, 53, 54, 55, 56, 57]⟩ : ByteArray).extract ((ji14) : Int).toNat ((wrap64 ((ji14) + 1)) : Int).toNat), 0)) else (none)) else (none)) else (none)) else (none)) = some (r1, r2) := by first | (rw [hji14] at H; exact H) | (simp only [hji14] at H ⊢; exact H)
                    (try rw [hji14] at A5)
                    (try rw [hji14] at A8)
                    by_cases c15 : 0 ≤ (ji14)
                    · rw [if_pos c15] at H
                      have c15b0 := eq_true c15
                      have c15b1 : decide (0 ≤ (ji14)) = true := decide_eq_true c15
                      clear c15
                      by_cases c16 : (ji14) ≤ (wrap64 ((ji14) + 1))
                      · rw [if_pos c16] at H
                        have c16b0 := eq_true c16
                        have c16b1 : decide ((ji14) ≤ (wrap64 ((ji14) + 1))) = true := decide_eq_true c16
                        by_cases c17 : (wrap64 ((ji14) + 1)) ≤ 10
                        · rw [if_pos c17] at H
                          have c17b0 := eq_true c17
                          have c17b1 : decide ((wrap64 ((ji14) + 1)) ≤ 10) = true := decide_eq_true c17
                          by_cases c18 : (a0 ++ ((⟨#[48, 49, 50, 51, 52, 53, 54, 55, 56, 57]⟩ : ByteArray).extract ((ji9) : Int).toNat ((wrap64 ((ji9) + 1)) : Int).toNat)).size + ((⟨#[48, 49, 50, 51, 52, 53, 54, 55, 56, 57]⟩ : ByteArray).extract ((ji14) : Int).toNat ((wrap64 ((ji14) + 1)) : Int).toNat).size ≤ 9223372036854775807
                          · rw [if_pos c18] at H
                            have c18b0 := eq_true c18
                            have c18b1 : decide ((a0 ++ ((⟨#[48, 49, 50, 51, 52, 53, 54, 55, 56, 57]⟩ : ByteArray).extract ((ji9) : Int).toNat ((wrap64 ((ji9) + 1)) : Int).toNat)).size + ((⟨#[48, 49, 50, 51, 52, 53, 54, 55, 56, 57]⟩ : ByteArray).extract ((ji14) : Int).toNat ((wrap64 ((ji14) + 1)) : Int).toNat).size ≤ 9223372036854775807) = true := decide_eq_true c18
                            try have c18b2 : (9223372036854775807 < (a0 ++ ((⟨#[48, 49, 50, 51, 52, 53, 54, 55, 56, 57]⟩ : ByteArray).extract ((ji9) : Int).toNat ((wrap64 ((ji9) + 1)) : Int).toNat)).size + ((⟨#[48, 49, 50, 51, 52, 53, 54, 55, 56, 57]⟩ : ByteArray).extract ((ji14) : Int).toNat ((wrap64 ((ji14) + 1)) : Int).toNat).size) = False := eq_false (Nat.not_lt.2 c18)
                            simp only [Option.some.injEq, Prod.mk.injEq] at H
                            obtain ⟨rfl, rfl⟩ := H
                            go_wp2_with (first | (go_at_call 94; (with_reducible refine (corebankref08_Plain.calls kj1 a0 true _ A5.out).mono ?_); rintro e w' ⟨rfl, ⟨nd, rfl⟩⟩; (try first | exact ⟨rfl, _, World.drewN_drewN _ _ _⟩ | exact ⟨rfl, _, Eq.trans (World.drewN_drewN _ _ _) (congrArg (World.drewN _) (Nat.add_assoc _ _ _))⟩)) | (go_at_call 95; (with_reducible refine (corebankref08_rest.calls kj1 (a0 ++ (⟨#[48, 48]⟩ : ByteArray)) t102 _ A8.out).mono ?_); rintro e w' ⟨rfl, ⟨nd, rfl⟩⟩; (try first | exact ⟨rfl, _, World.drewN_drewN _ _ _⟩ | exact ⟨rfl, _, Eq.trans (World.drewN_drewN _ _ _) (congrArg (World.drewN _) (Nat.add_assoc _ _ _))⟩)))
                            repeat (go_quiet (first | (go_at_call 94; (with_reducible refine (corebankref08_Plain.calls kj1 a0 true _ A5.out).mono ?_); rintro e w' ⟨rfl, ⟨nd, rfl⟩⟩; (try first | exact ⟨rfl, _, World.drewN_drewN _ _ _⟩ | exact ⟨rfl, _, Eq.trans (World.drewN_drewN _ _ _) (congrArg (World.drewN _) (Nat.add_assoc _ _ _))⟩)) | (go_at_call 95; (with_reducible refine (corebankref08_rest.calls kj1 (a0 ++ (⟨#[48, 48]⟩ : ByteArray)) t102 _ A8.out).mono ?_); rintro e w' ⟨rfl, ⟨nd, rfl⟩⟩; (try first | exact ⟨rfl, _, World.drewN_drewN _ _ _⟩ | exact ⟨rfl, _, Eq.trans (World.drewN_drewN _ _ _) (congrArg (World.drewN _) (Nat.add_assoc _ _ _))⟩))); try go_wp2_with (first | (go_at_call 94; (with_reducible refine (corebankref08_Plain.calls kj1 a0 true _ A5.out).mono ?_); rintro e w' ⟨rfl, ⟨nd, rfl⟩⟩; (try first | exact ⟨rfl, _, World.drewN_drewN _ _ _⟩ | exact ⟨rfl, _, Eq.trans (World.drewN_drewN _ _ _) (congrArg (World.drewN _) (Nat.add_assoc _ _ _))⟩)) | (go_at_call 95; (with_reducible refine (corebankref08_rest.calls kj1 (a0 ++ (⟨#[48, 48]⟩ : ByteArray)) t102 _ A8.out).mono ?_); rintro e w' ⟨rfl, ⟨nd, rfl⟩⟩; (try first | exact ⟨rfl, _, World.drewN_drewN _ _ _⟩ | exact ⟨rfl, _, Eq.trans (World.drewN_drewN _ _ _) (congrArg (World.drewN _) (Nat.add_assoc _ _ _))⟩))))
                            go_ret2
                            exact ⟨by first | rfl | (simp; done) | (simp only [← hji9, ← hji14] <;> (first | rfl | simp)) | (simp [*]; done), by repeat (first | exact Drawn0.refl _ | apply Drawn0.step)⟩
                          · rw [if_neg c18] at H
                            exact absurd H (by simp)
                        · rw [if_neg c17] at H
                          exact absurd H (by simp)
                      · rw [if_neg c16] at H
                        exact absurd H (by simp)
                    · rw [if_neg c15] at H
                      exact absurd H (by simp)
                  · rw [if_neg c13] at H
                    exact absurd H (by simp)
                · rw [if_neg c12] at H
                  exact absurd H (by simp)
              · rw [if_neg c11] at H
                exact absurd H (by simp)
            · rw [if_neg c10] at H
              exact absurd H (by simp)
          · rw [if_neg c7] at H
            exact absurd H (by simp)
        · replace c6 := Bool.eq_false_iff.mpr c6
          subst c6
          have H1 : (some ((⟨#[]⟩ : ByteArray), 2)) = some (r1, r2) := by rw [if_neg (show ¬ (false = true) by decide)] at H; exact H
          clear H
          have H := H1
          clear H1
          simp only [Option.some.injEq, Prod.mk.injEq] at H
          obtain ⟨rfl, rfl⟩ := H
          go_wp2_with (first | (go_at_call 94; (with_reducible refine (corebankref08_Plain.calls kj1 a0 false _ A5.out).mono ?_); rintro e w' ⟨rfl, ⟨nd, rfl⟩⟩; (try first | exact ⟨rfl, _, World.drewN_drewN _ _ _⟩ | exact ⟨rfl, _, Eq.trans (World.drewN_drewN _ _ _) (congrArg (World.drewN _) (Nat.add_assoc _ _ _))⟩)))
          repeat (go_quiet (first | (go_at_call 94; (with_reducible refine (corebankref08_Plain.calls kj1 a0 false _ A5.out).mono ?_); rintro e w' ⟨rfl, ⟨nd, rfl⟩⟩; (try first | exact ⟨rfl, _, World.drewN_drewN _ _ _⟩ | exact ⟨rfl, _, Eq.trans (World.drewN_drewN _ _ _) (congrArg (World.drewN _) (Nat.add_assoc _ _ _))⟩))); try go_wp2_with (first | (go_at_call 94; (with_reducible refine (corebankref08_Plain.calls kj1 a0 false _ A5.out).mono ?_); rintro e w' ⟨rfl, ⟨nd, rfl⟩⟩; (try first | exact ⟨rfl, _, World.drewN_drewN _ _ _⟩ | exact ⟨rfl, _, Eq.trans (World.drewN_drewN _ _ _) (congrArg (World.drewN _) (Nat.add_assoc _ _ _))⟩))))
          go_ret2
          exact ⟨by first | rfl | (simp; done) | (simp [*]; done), by repeat (first | exact Drawn0.refl _ | apply Drawn0.step)⟩

end Go.Proofs.Ytlmabdiodopidaa.Q
end
section
namespace Go.Proofs.Ytlmabdiodopidaa.Q
open Go.Proofs.Ytlmabdiodopidaa.G
attribute [local go_sem high] un_not64 un_noti run_add64
open Go.RowKit Go.Proofs.YtlmabdiodopidaaW.PrintWords Go.Proofs.YtlmabdiodopidaaW.PrintLast Go.Proofs.YtlmabdiodopidaaW.PrintMore
attribute [local go_sem] max2_int min2_int max_two min_two max_three min_three max_four min_four   -- for this text's walks alone
set_option linter.unusedVariables false
set_option linter.unusedSimpArgs false

/-! ### corebankref24_Number: function 73 -/
mutual
def corebankref24_Number.j0 : Nat → Int → Bool → Option (ByteArray)
  | 0, _, _ => none
  | k + 1, x0, x12 => if x12 = true then (some (⟨#[]⟩ : ByteArray)) else (corebankref24_Number.l0 k x0 (⟨#[]⟩ : ByteArray) 0)
def corebankref24_Number.l0 : Nat → Int → ByteArray → Int → Option (ByteArray)
  | 0, _, _, _ => none
  | k + 1, x0, x3, x4 => if x4 < 8 then (if 0 ≤ (Int.tmod x0 10) then (if (Int.tmod x0 10) ≤ (wrap64 ((Int.tmod x0 10) + 1)) then (if (wrap64 ((Int.tmod x0 10) + 1)) ≤ 10 then (if ((⟨#[48, 49, 50, 51, 52, 53, 54, 55, 56, 57]⟩ : ByteArray).extract ((Int.tmod x0 10) : Int).toNat ((wrap64 ((Int.tmod x0 10) + 1)) : Int).toNat).size + x3.size ≤ 9223372036854775807 then (corebankref24_Number.l0 k (wrap64 (Int.tdiv x0 10)) (((⟨#[48, 49, 50, 51, 52, 53, 54, 55, 56, 57]⟩ : ByteArray).extract ((Int.tmod x0 10) : Int).toNat ((wrap64 ((Int.tmod x0 10) + 1)) : Int).toNat) ++ x3) (wrap64 (x4 + 1))) else (none)) else (none)) else (none)) else (none)) else (if 2 + x3.size ≤ 9223372036854775807 then ((corebankref08_Seal.f k ((⟨#[67, 66]⟩ : ByteArray) ++ x3)).bind fun bt103 => (some bt103.1)) else (none))
end
def corebankref24_Number.f (k : Nat) (a0 : Int) : Option (ByteArray) := if a0 < 1000 then (corebankref24_Number.j0 k a0 true) else (corebankref24_Number.j0 k a0 (decide (a0 > 99999999)))
theorem corebankref24_Number.mono_l : ∀ k, (∀ y0 y1, LeO (corebankref24_Number.j0 k y0 y1) (corebankref24_Number.j0 (k + 1) y0 y1)) ∧ (∀ y0 y1 y2, LeO (corebankref24_Number.l0 k y0 y1 y2) (corebankref24_Number.l0 (k + 1) y0 y1 y2))
  | 0 => ⟨fun _ _ r h => by simp [corebankref24_Number.j0] at h, fun _ _ _ r h => by simp [corebankref24_Number.l0] at h⟩
  | k + 1 => by
    obtain ⟨ih0, ih1⟩ := corebankref24_Number.mono_l k
    refine ⟨?_, ?_⟩
    · intro y0 y1
      unfold corebankref24_Number.j0
      repeat' first
      | (with_reducible exact ih0 _ _)
      | (with_reducible exact ih1 _ _ _)
      | (with_reducible exact corebankref08_Seal.mono _ _)
      | (with_reducible exact LeO.refl _)
      | (with_reducible exact LeO.none _)
      | (with_reducible refine LeO.ite ?_ ?_)
      | (with_reducible refine LeO.bind ?_ (fun _ => ?_))
      | exact ih0 _ _
      | exact ih1 _ _ _
      | exact corebankref08_Seal.mono _ _
      | exact LeO.none _
      | refine LeO.ite ?_ ?_
      | refine LeO.bind ?_ (fun _ => ?_)
    · intro y0 y1 y2
      unfold corebankref24_Number.l0
      repeat' first
      | (with_reducible exact ih0 _ _)
      | (with_reducible exact ih1 _ _ _)
      | (with_reducible exact corebankref08_Seal.mono _ _)
      | (with_reducible exact LeO.refl _)
      | (with_reducible exact LeO.none _)
      | (with_reducible refine LeO.ite ?_ ?_)
      | (with_reducible refine LeO.bind ?_ (fun _ => ?_))
      | exact ih0 _ _
      | exact ih1 _ _ _
      | exact corebankref08_Seal.mono _ _
      | exact LeO.none _
      | refine LeO.ite ?_ ?_
      | refine LeO.bind ?_ (fun _ => ?_)
theorem corebankref24_Number.mono : ∀ a0 k, LeO (corebankref24_Number.f k a0) (corebankref24_Number.f (k + 1) a0) := by
  intro a0 k
  obtain ⟨ih0, ih1⟩ := corebankref24_Number.mono_l k
  unfold corebankref24_Number.f
  repeat' first
      | (with_reducible exact ih0 _ _)
      | (with_reducible exact ih1 _ _ _)
      | (with_reducible exact corebankref08_Seal.mono _ _)
      | (with_reducible exact LeO.refl _)
      | (with_reducible exact LeO.none _)
      | (with_reducible refine LeO.ite ?_ ?_)
      | (with_reducible refine LeO.bind ?_ (fun _ => ?_))
      | exact ih0 _ _
      | exact ih1 _ _ _
      | exact corebankref08_Seal.mono _ _
      | exact LeO.none _
      | refine LeO.ite ?_ ?_
      | refine LeO.bind ?_ (fun _ => ?_)
set_option maxHeartbeats 8000000 in
set_option maxRecDepth 100000 in
theorem corebankref24_Number.calls (k : Nat) (a0 : Int) (r : ByteArray) (w : World) (h : corebankref24_Number.f k a0 = some r) :
    Calls Try.prog 73 #[.int .i64 a0] w fun e w' => e = .returned (.string r) ∧ Drawn0 w w' := by
  have H : (if a0 < 1000 then (corebankref24_Number.j0 k a0 true) else (corebankref24_Number.j0 k a0 (decide (a0 > 99999999)))) = some r := h
  clear h
  have HC2 := Aside0.mk H
  clear H
  go_enter Try.func73, Try.ntmps73
  go_upto_region 1 with (fail)
  go_cut [12] (fun v12 wc => ∃ (kq : Nat) (x12_1 : Bool), v12 = .bool x12_1 ∧ Aside0 (corebankref24_Number.j0 kq a0 x12_1 = some r) ∧ Aside0 (kq ≤ k) ∧ Drawn0 w wc)
  case first =>
    have H := HC2.out
    clear HC2
    by_cases c3 : a0 < 1000
    · rw [if_pos c3] at H
      have c3b0 : decide (a0 < 1000) = true := decide_eq_true c3
      clear c3
      (first | rw [c3b0] | (simp only [i64_w, i32_w]; rw [c3b0]) | skip)
      have H' := Aside0.mk H
      clear H
      go_wp2
      go_meet
      case rel => exact ⟨_, (true), (by first | rfl | (simp; done) | (simp [*]; done)), H', ⟨by first | omega | exact Nat.le_refl _⟩, by repeat (first | exact Drawn0.refl _ | apply Drawn0.step)⟩
    · rw [if_neg c3] at H
      have c3b0 : decide (a0 < 1000) = false := decide_eq_false c3
      clear c3
      (first | rw [c3b0] | (simp only [i64_w, i32_w]; rw [c3b0]) | skip)
      have H' := Aside0.mk H
      clear H
      go_wp2
      go_meet
      case rel => exact ⟨_, (decide (a0 > 99999999)), (by first | rfl | (simp; done) | (simp [*]; done)), H', ⟨by first | omega | exact Nat.le_refl _⟩, by repeat (first | exact Drawn0.refl _ | apply Drawn0.step)⟩
  case rest =>
    clear HC2
    try clear p2
    try clear c3
    try clear c3b0
    obtain ⟨kq, x12_1, rfl, HA, HJ1, ⟨mc1, rfl⟩⟩ := hcut
    cases kq with
    | zero => exact absurd HA.out (by simp [corebankref24_Number.j0])
    | succ kj1 =>
      have H := HA.out
      clear HA
      simp only [corebankref24_Number.j0] at H
      by_cases c4 : x12_1 = true
      · subst c4
        have H1 : (some (⟨#[]⟩ : ByteArray)) = some r := by rw [if_pos rfl] at H; exact H
        clear H
        have H := H1
        clear H1
        obtain rfl := Option.some.inj H
        go_wp2
        go_ret
        exact ⟨by first | rfl | (simp; done) | (simp [*]; done), by repeat (first | exact Drawn0.refl _ | apply Drawn0.step)⟩
      · replace c4 := Bool.eq_false_iff.mpr c4
        subst c4
        have H1 : (corebankref24_Number.l0 kj1 a0 (⟨#[]⟩ : ByteArray) 0) = some r := by rw [if_neg (show ¬ (false = true) by decide)] at H; exact H
        clear H
        have H := H1
        clear H1
        have H' := Aside0.mk H
        clear H
        go_wp2
        go_loopg [0, 3, 4] kj1 (fun kq v0 v3 v4 w' => ∃ (x0_2 : Int) (x3_2 : ByteArray) (x4_2 : Int), v0 = .int .i64 x0_2 ∧ v3 = .string x3_2 ∧ v4 = .int .i64 x4_2 ∧ Aside0 (corebankref24_Number.l0 kq x0_2 x3_2 x4_2 = some r) ∧ Aside0 (kq ≤ kj1) ∧ Drawn0 w w')
        case atStart => exact ⟨(a0), ((⟨#[]⟩ : ByteArray)), (0), (by first | rfl | (simp; done) | (simp [*]; done)), (by first | rfl | (simp; done) | (simp [*]; done)), (by first | rfl | (simp; done) | (simp [*]; done)), H', ⟨Nat.le_refl _⟩, by repeat (first | exact Drawn0.refl _ | apply Drawn0.step)⟩
        case round =>
          clear H'
          try clear c1
          try clear p2
          try clear c3
          try clear c3b0
          try clear c4
          try clear p2
          obtain ⟨x0_2, x3_2, x4_2, rfl, rfl, rfl, HA, HK2, ⟨m2, rfl⟩⟩ := hrel
          cases gk with
          | zero => exact absurd HA.out (by simp [corebankref24_Number.l0])
          | succ k2 =>
            have H := HA.out
            clear HA
            simp only [corebankref24_Number.l0] at H
            by_cases c5 : x4_2 < 8
            · rw [if_pos c5] at H
              have c5b0 : decide (x4_2 < 8) = true := decide_eq_true c5
              clear c5
              obtain ⟨ji6, hji6⟩ : ∃ j_ : Int, (Int.tmod x0_2 10) = j_ := ⟨_, rfl⟩
              replace H : (if 0 ≤ (ji6) then (if (ji6) ≤ (wrap64 ((ji6) + 1)) then (if (wrap64 ((ji6) + 1)) ≤ 10 then (if ((⟨#[48, 49, 50, 51, 52, 53, 54, 55, 56, 57]⟩ : ByteArray).extract ((ji6) : Int).toNat ((wrap64 ((ji6) + 1)) : Int).toNat).size + x3_2.size ≤ 9223372036854775807 then (corebankref24_Number.l0 k2 (wrap64 (Int.tdiv x0_2 10)) (((⟨#[48, 49, 50, 51, 52, 53, 54, 55, 56, 57]⟩ : ByteArray).extract ((ji6) : Int).toNat ((wrap64 ((ji6) + 1)) : Int).toNat) ++ x3_2) (wrap64 (x4_2 + 1))) else (none)) else (none)) else (none)) else (none)) = some r := by first | (rw [hji6] at H; exact H) | (simp only [hji6] at H ⊢; exact H)
              by_cases c7 : 0 ≤ (ji6)
              · rw [if_pos c7] at H
                have c7b0 := eq_true c7
                have c7b1 : decide (0 ≤ (ji6)) = true := decide_eq_true c7
                clear c7
                by_cases c8 : (ji6) ≤ (wrap64 ((ji6) + 1))
                · rw [if_pos c8] at H
                  have c8b0 := eq_true c8
                  have c8b1 : decide ((ji6) ≤ (wrap64 ((ji6) + 1))) = true := decide_eq_true c8
                  by_cases c9 : (wrap64 ((ji6) + 1)) ≤ 10
                  · rw [if_pos c9] at H
                    have c9b0 := eq_true c9
                    have c9b1 : decide ((wrap64 ((ji6) + 1)) ≤ 10) = true := decide_eq_true c9
                    by_cases c10 : ((⟨#[48, 49, 50, 51, 52, 53, 54, 55, 56, 57]⟩ : ByteArray).extract ((ji6) : Int).toNat ((wrap64 ((ji6) + 1)) : Int).toNat).size + x3_2.size ≤ 9223372036854775807
                    · rw [if_pos c10] at H
                      have c10b0 := eq_true c10
                      have c10b1 : decide (((⟨#[48, 49, 50, 51, 52, 53, 54, 55, 56, 57]⟩ : ByteArray).extract ((ji6) : Int).toNat ((wrap64 ((ji6) + 1)) : Int).toNat).size + x3_2.size ≤ 9223372036854775807) = true := decide_eq_true c10
                      try have c10b2 : (9223372036854775807 < ((⟨#[48, 49, 50, 51, 52, 53, 54, 55, 56, 57]⟩ : ByteArray).extract ((ji6) : Int).toNat ((wrap64 ((ji6) + 1)) : Int).toNat).size + x3_2.size) = False := eq_false (Nat.not_lt.2 c10)
                      have H' := Aside0.mk H
                      clear H
                      go_wp2
                      go_roundg k2
                      case measure => have := HJ1.out; have := HK2.out; omega
                      case rel => exact ⟨(wrap64 (Int.tdiv x0_2 10)), (((⟨#[48, 49, 50, 51, 52, 53, 54, 55, 56, 57]⟩ : ByteArray).extract ((ji6) : Int).toNat ((wrap64 ((ji6) + 1)) : Int).toNat) ++ x3_2), (wrap64 (x4_2 + 1)), (by first | rfl | (simp; done) | (simp [*]; done)), (by first | rfl | (simp; done) | (simp only [← hji6] <;> (first | rfl | simp)) | (simp [*]; done)), (by first | rfl | (simp; done) | (simp [*]; done)), H', ⟨by have := HJ1.out; have := HK2.out; omega⟩, by repeat (first | exact Drawn0.refl _ | apply Drawn0.step)⟩
                    · rw [if_neg c10] at H
                      exact absurd H (by simp)
                  · rw [if_neg c9] at H
                    exact absurd H (by simp)
                · rw [if_neg c8] at H
                  exact absurd H (by simp)
              · rw [if_neg c7] at H
                exact absurd H (by simp)
            · rw [if_neg c5] at H
              have c5b0 : decide (x4_2 < 8) = false := decide_eq_false c5
              clear c5
              by_cases c11 : 2 + x3_2.size ≤ 9223372036854775807
              · rw [if_pos c11] at H
                have c11b0 := eq_true c11
                have c11b1 : decide (2 + x3_2.size ≤ 9223372036854775807) = true := decide_eq_true c11
                try have c11b2 : (9223372036854775807 < 2 + x3_2.size) = False := eq_false (Nat.not_lt.2 c11)
                replace H := Option.bind_eq_some_iff.mp H
                obtain ⟨⟨t103, t104⟩, A120, H⟩ := H
                replace H : (some t103) = some r := H
                have A12 := Aside0.mk A120
                clear A120
                obtain rfl := Option.some.inj H
                go_wp2_with (first | ((with_reducible refine gate_callee (f := 85) rfl ?_); refine goesL_ (some 30) rfl rfl Try.func85 (by kernel_rfl) rfl #[.string ((⟨#[67, 66]⟩ : ByteArray) ++ x3_2)] rfl zm ?_; (with_reducible refine (corebankref08_Seal.calls k2 ((⟨#[67, 66]⟩ : ByteArray) ++ x3_2) t103 t104 _ A12.out).mono ?_); rintro e w' ⟨rfl, ⟨nd, rfl⟩⟩; refine ⟨_, rfl, ?_⟩))
                go_ret
                exact ⟨by first | rfl | (simp; done) | (simp [*]; done), by repeat (first | exact Drawn0.refl _ | apply Drawn0.step)⟩
              · rw [if_neg c11] at H
                exact absurd H (by simp)

end Go.Proofs.Ytlmabdiodopidaa.Q
end
section
namespace Go.Proofs.Ytlmabdiodopidaa.G
set_option maxRecDepth 100000
open Go.RowKit Go.Proofs.YtlmabdiodopidaaW.PrintWords Go.Proofs.YtlmabdiodopidaaW.PrintLast Go.Proofs.YtlmabdiodopidaaW.PrintMore Go.Proofs.Ytlmabdiodopidaa.P
/-- the number of the sample's account -/
def numS : ByteArray := (Go.Proofs.Ytlmabdiodopidaa.Q.corebankref24_Number.f 100 1000).getD ⟨#[]⟩
theorem num_ok : Go.Proofs.Ytlmabdiodopidaa.Q.corebankref24_Number.f 100 1000 = some numS := by
  have h : (Go.Proofs.Ytlmabdiodopidaa.Q.corebankref24_Number.f 100 1000).isSome = true := by decide +kernel
  unfold numS
  cases hh : Go.Proofs.Ytlmabdiodopidaa.Q.corebankref24_Number.f 100 1000 with
  | none => rw [hh] at h; cases h
  | some v => rfl
abbrev zBks : List Value := [.slice none 0 0, .slice none 0 0, .slice none 0 0, .int .i64 0, .int .i64 0, .int .i64 0, .int .i64 0, .int .i64 0, .int .i64 0, .int .i64 0, .int .i64 0, .int .i64 0, .int .i64 0, .int .i64 0, .int .i64 0, .int .i64 0, .int .i64 0, .slice none 0 0, .slice none 0 0, .slice none 0 0, .slice none 0 0, .slice none 0 0]
abbrev sTier : List Value := [.int .i64 0, .int .i64 15000]
abbrev sInt (g : Nat) : List Value := [.slice (some ⟨g, 0, none⟩) 1 1, .bool false, .int .i64 2, .int .i64 1, .bool false]
abbrev sAcc : List Value := [.int .i64 1000, .int .i64 1, .int .i64 0, .int .i64 0, .string ⟨#[97, 110, 110]⟩, .string ⟨#[103, 105, 114, 111]⟩, .string numS]
abbrev sLegs (a b : Int) : List Value := [.int .i64 1000, .int .i64 a, .string ⟨#[69, 85, 82]⟩, .int .i64 1, .int .i64 b, .string ⟨#[69, 85, 82]⟩]
abbrev sEnt (d : Int) (g : Nat) : List Value := [.int .i64 0, .int .i64 d, .int .i64 d, .int .i64 0, .int .i64 0, .int .i64 0, .string ⟨#[]⟩, .string ⟨#[]⟩, .slice (some ⟨g, 0, none⟩) 2 2, .int .u64 0]
abbrev sPrd (g : Nat) : List Value := [.string ⟨#[103, 105, 114, 111]⟩, .string ⟨#[69, 85, 82]⟩, .string ⟨#[]⟩, .int .i64 0, .int .i64 0, .int .i64 0, .int .i64 0, .slice (some ⟨g, 0, none⟩) 1 1, .bool false, .int .i64 2, .int .i64 1, .bool false, .slice (some ⟨g, 0, none⟩) 1 1, .bool false, .int .i64 2, .int .i64 1, .bool false, .slice none 0 0, .slice none 0 0]
abbrev sBks (p a j : Nat) : List Value := [.slice none 0 0, .slice none 0 0, .slice none 0 0, .int .i64 0, .int .i64 0, .int .i64 0, .int .i64 0, .int .i64 0, .int .i64 0, .int .i64 0, .int .i64 0, .int .i64 0, .int .i64 0, .int .i64 0, .int .i64 0, .int .i64 0, .int .i64 0, .slice (some ⟨p, 0, none⟩) 1 1, .slice (some ⟨a, 0, none⟩) 1 1, .slice (some ⟨j, 0, none⟩) 2 2, .slice none 0 0, .slice none 0 0]
/-- a list that lies in a block of its own -/
theorem C_blk {α : Type} {d : Kd α} {w : World} {g t : Nat} {cells : List Value} {xs : List α} (h : Blk w g cells t) (hr : Reps (d.K w) d.sz xs cells) (hm : xs.length ≤ 9223372036854775807) : d.C w (some ⟨g, 0, none⟩) xs.length xs :=
  ⟨rfl, hm, fun _ => ⟨_, rfl, fun j p hj => ⟨(cells.drop (j * d.sz)).take d.sz, d.K_len (hr.2 j p hj), hr.2 j p hj, fun i u hu => by
    rw [List.getElem?_take] at hu
    split at hu
    · rw [List.getElem?_drop] at hu
      exact h.rng _ u hu
    · cases hu⟩⟩⟩
def samIntr : Intr := ⟨[⟨0, 15000⟩], false, 2, .int .i64 1, .bool false⟩
def samPrd : Prd := ⟨⟨#[103, 105, 114, 111]⟩, .string ⟨#[69, 85, 82]⟩, .string ⟨#[]⟩, 0, .int .i64 0, .int .i64 0, .int .i64 0, samIntr, samIntr, .slice none 0 0, .slice none 0 0⟩
def samAcc : Acc := ⟨1000, 1, 0, .int .i64 0, .string ⟨#[97, 110, 110]⟩, ⟨#[103, 105, 114, 111]⟩, .string numS⟩
def samEnt (d a b : Int) : Ent := ⟨.int .i64 0, d, d, .int .i64 0, .int .i64 0, .int .i64 0, .string ⟨#[]⟩, .string ⟨#[]⟩, [⟨1000, a, .string ⟨#[69, 85, 82]⟩⟩, ⟨1, b, .string ⟨#[69, 85, 82]⟩⟩], .int .u64 0⟩
def samPlan : Plan := ⟨.int .i64 0, .int .i64 0, .int .i64 0, .int .i64 0, .int .i64 0, .int .i64 0, .int .i64 0, .int .i64 0, .int .i64 0, .int .i64 0, .int .i64 0, .int .i64 0, .int .i64 0, .int .i64 0⟩
/-- the books of the sample -/
def samB : Bk := ⟨.slice none 0 0, .slice none 0 0, .slice none 0 0, samPlan, [samPrd], [samAcc], [samEnt 2 (-100000) 100000, samEnt 4 200000 (-200000)], .slice none 0 0, .slice none 0 0⟩
theorem samIntr_K {w : World} {g : Nat} (h : Blk w g sTier 50) : kIntr.K w samIntr (sInt g) :=
  ⟨_, _, rfl, ⟨some ⟨g, 0, none⟩, 1, rfl, Nat.le_refl _, C_blk (d := k50) (xs := samIntr.tiers) h (Reps.c2 ⟨_, _, rfl, rfl, rfl⟩ (Reps.none _ _)) (show (1 : Nat) ≤ _ by decide)⟩, _, _, rfl, rfl, _, _, rfl, rfl, _, _, rfl, ⟨rfl, rfl⟩, ⟨rfl, rfl⟩⟩
theorem samPrd_K {w : World} {g : Nat} (h : Blk w g sTier 50) : kPrd.K w samPrd (sPrd g) :=
  ⟨_, _, rfl, rfl, _, _, rfl, ⟨rfl, rfl⟩, _, _, rfl, ⟨rfl, rfl⟩, _, _, rfl, rfl, _, _, rfl, ⟨rfl, rfl⟩, _, _, rfl, ⟨rfl, rfl⟩, _, _, rfl, ⟨rfl, rfl⟩, sInt g, _, rfl, samIntr_K h, sInt g, _, rfl, samIntr_K h, _, _, rfl, ⟨rfl, rfl⟩, ⟨rfl, rfl⟩⟩
theorem samAcc_K (w : World) : kAcc.K w samAcc sAcc := ⟨_, _, rfl, rfl, _, _, rfl, rfl, _, _, rfl, rfl, _, _, rfl, ⟨rfl, rfl⟩, _, _, rfl, ⟨rfl, rfl⟩, _, _, rfl, rfl, ⟨rfl, rfl⟩⟩
theorem samLeg_K (w : World) (a b : Int) : kLeg.K w ⟨a, b, .string ⟨#[69, 85, 82]⟩⟩ [.int .i64 a, .int .i64 b, .string ⟨#[69, 85, 82]⟩] := ⟨_, _, rfl, rfl, _, _, rfl, rfl, ⟨rfl, rfl⟩⟩
theorem samEnt_K {w : World} {g : Nat} (d a b : Int) (h : Blk w g (sLegs a b) 132) : kEnt.K w (samEnt d a b) (sEnt d g) :=
  ⟨_, _, rfl, ⟨rfl, rfl⟩, _, _, rfl, rfl, _, _, rfl, rfl, _, _, rfl, ⟨rfl, rfl⟩, _, _, rfl, ⟨rfl, rfl⟩, _, _, rfl, ⟨rfl, rfl⟩, _, _, rfl, ⟨rfl, rfl⟩, _, _, rfl, ⟨rfl, rfl⟩, _, _, rfl, ⟨some ⟨g, 0, none⟩, 2, rfl, Nat.le_refl _, C_blk (d := kLeg) (xs := (samEnt d a b).legs) h (Reps.c3 (samLeg_K w 1000 a) (Reps.c3 (samLeg_K w 1 b) (Reps.none _ _))) (show (2 : Nat) ≤ _ by decide)⟩, ⟨rfl, rfl⟩⟩
theorem samB_K {w : World} {gt gp ga gj gl gm : Nat} (hp : Blk w gp (sPrd gt) 98) (ht : Blk w gt sTier 50) (ha : Blk w ga sAcc 101) (hj : Blk w gj (sEnt 2 gl ++ sEnt 4 gm) 82) (hl : Blk w gl (sLegs (-100000) 100000) 132) (hm : Blk w gm (sLegs 200000 (-200000)) 132) : kBk.K w samB (sBks gp ga gj) :=
  ⟨_, _, rfl, ⟨rfl, rfl⟩, _, _, rfl, ⟨rfl, rfl⟩, _, _, rfl, ⟨rfl, rfl⟩, List.replicate 14 (.int .i64 0), _, rfl, ⟨_, _, rfl, ⟨rfl, rfl⟩, _, _, rfl, ⟨rfl, rfl⟩, _, _, rfl, ⟨rfl, rfl⟩, _, _, rfl, ⟨rfl, rfl⟩, _, _, rfl, ⟨rfl, rfl⟩, _, _, rfl, ⟨rfl, rfl⟩, _, _, rfl, ⟨rfl, rfl⟩, _, _, rfl, ⟨rfl, rfl⟩, _, _, rfl, ⟨rfl, rfl⟩, _, _, rfl, ⟨rfl, rfl⟩, _, _, rfl, ⟨rfl, rfl⟩, _, _, rfl, ⟨rfl, rfl⟩, _, _, rfl, ⟨rfl, rfl⟩, ⟨rfl, rfl⟩⟩,
    _, _, rfl, ⟨some ⟨gp, 0, none⟩, 1, rfl, Nat.le_refl _, C_blk (d := kPrd) (xs := [samPrd]) hp (Reps.front (samPrd_K ht) rfl (Reps.none _ _) rfl) (by decide)⟩,
    _, _, rfl, ⟨some ⟨ga, 0, none⟩, 1, rfl, Nat.le_refl _, C_blk (d := kAcc) (xs := [samAcc]) ha (Reps.front (samAcc_K w) rfl (Reps.none _ _) rfl) (by decide)⟩,
    _, _, rfl, ⟨some ⟨gj, 0, none⟩, 2, rfl, Nat.le_refl _, C_blk (d := kEnt) (xs := samB.jour) hj (Reps.front (samEnt_K 2 (-100000) 100000 hl) rfl (Reps.front (samEnt_K 4 200000 (-200000) hm) rfl (Reps.none _ _) rfl) rfl) (show (2 : Nat) ≤ _ by decide)⟩,
    _, _, rfl, ⟨rfl, rfl⟩, ⟨rfl, rfl⟩⟩
set_option maxHeartbeats 4000000 in
theorem sample_calls (w : World) :
    Calls Try.prog 50 #[] w fun e w' => ∃ cs : List Value, e = .returned (.agg cs.toArray) ∧ kBk.K w' samB cs ∧ Below w.heap.size w w' := by
  go_enter Try.func50, Try.ntmps50
  go_upto_region 2 with (fail)
  have G1 := Aside0.mk (((Blk.new w zBks 63).alloc (.cells sTier.toArray 50)).alloc (.cells (sInt (w.heap.size + 1)).toArray 94))
  have T1 := Aside0.mk ((Blk.newAt (w.alloc (.cells zBks.toArray 63)) (g := w.heap.size + 1) (by simp) sTier 50).alloc (.cells (sInt (w.heap.size + 1)).toArray 94))
  have X1 := Aside0.mk (Blk.newAt ((w.alloc (.cells zBks.toArray 63)).alloc (.cells sTier.toArray 50)) (g := w.heap.size + 1 + 1) (by simp) (sInt (w.heap.size + 1)) 94)
  have HW := Aside0.mk ((((Below.refl w.heap.size w).alloc (Nat.le_refl _) (.cells zBks.toArray 63)).alloc (by simp) (.cells sTier.toArray 50)).alloc (by simp; omega) (.cells (sInt (w.heap.size + 1)).toArray 94))
  generalize World.alloc _ _ = W1 at *
  go_upto_region 3 with (first
    | (go_at_call 73; refine (Go.Proofs.Ytlmabdiodopidaa.Q.corebankref24_Number.calls 100 1000 numS _ num_ok).mono ?_; rintro e w2 ⟨rfl, hd⟩; have HN : Aside0 (Below W1.heap.size W1 w2) := ⟨by obtain ⟨nd, rfl⟩ := hd; exact pw_below_drewN (Below.refl _ _) nd⟩; clear hd))
  have G2 := Aside0.mk ((G1.out.below HN.out).alloc (.cells sAcc.toArray 101))
  have T2 := Aside0.mk ((T1.out.below HN.out).alloc (.cells sAcc.toArray 101))
  have X2 := Aside0.mk ((X1.out.below HN.out).alloc (.cells sAcc.toArray 101))
  have A2 := Aside0.mk (Blk.new w2 sAcc 101)
  have HW2 := Aside0.mk ((bstep HW.out HN.out).alloc (bstep HW.out HN.out).size (.cells sAcc.toArray 101))
  have O2 := Aside0.mk (show w.heap.size + 1 + 1 < w2.heap.size from Nat.lt_of_lt_of_le X1.out.lt HN.out.size)
  clear G1 T1 X1 HW HN
  generalize World.alloc _ _ = W2 at *
  generalize w2.heap.size = ga at *
  go_upto_region 4 with (fail)
  have G3 := Aside0.mk ((G2.out.alloc (.cells (sLegs (-100000) 100000).toArray 132)).alloc (.cells (sEnt 2 W2.heap.size).toArray 82))
  have T3 := Aside0.mk ((T2.out.alloc (.cells (sLegs (-100000) 100000).toArray 132)).alloc (.cells (sEnt 2 W2.heap.size).toArray 82))
  have X3 := Aside0.mk ((X2.out.alloc (.cells (sLegs (-100000) 100000).toArray 132)).alloc (.cells (sEnt 2 W2.heap.size).toArray 82))
  have A3 := Aside0.mk ((A2.out.alloc (.cells (sLegs (-100000) 100000).toArray 132)).alloc (.cells (sEnt 2 W2.heap.size).toArray 82))
  have L3 := Aside0.mk ((Blk.new W2 (sLegs (-100000) 100000) 132).alloc (.cells (sEnt 2 W2.heap.size).toArray 82))
  have E3 := Aside0.mk (Blk.newAt (W2.alloc (.cells (sLegs (-100000) 100000).toArray 132)) (g := W2.heap.size + 1) (by simp) (sEnt 2 W2.heap.size) 82)
  have HW3 := Aside0.mk ((HW2.out.alloc HW2.out.size (.cells (sLegs (-100000) 100000).toArray 132)).alloc (by have := HW2.out.size; simp; omega) (.cells (sEnt 2 W2.heap.size).toArray 82))
  have O3 := Aside0.mk A2.out.lt
  clear G2 T2 X2 A2 HW2
  generalize World.alloc _ _ = W3 at *
  generalize W2.heap.size = gl at *
  go_upto_region 5 with (fail)
  have G4 := Aside0.mk ((G3.out.alloc (.cells (sLegs 200000 (-200000)).toArray 132)).alloc (.cells (sEnt 4 W3.heap.size).toArray 82))
  have T4 := Aside0.mk ((T3.out.alloc (.cells (sLegs 200000 (-200000)).toArray 132)).alloc (.cells (sEnt 4 W3.heap.size).toArray 82))
  have X4 := Aside0.mk ((X3.out.alloc (.cells (sLegs 200000 (-200000)).toArray 132)).alloc (.cells (sEnt 4 W3.heap.size).toArray 82))
  have A4 := Aside0.mk ((A3.out.alloc (.cells (sLegs 200000 (-200000)).toArray 132)).alloc (.cells (sEnt 4 W3.heap.size).toArray 82))
  have L4 := Aside0.mk ((L3.out.alloc (.cells (sLegs 200000 (-200000)).toArray 132)).alloc (.cells (sEnt 4 W3.heap.size).toArray 82))
  have E4 := Aside0.mk ((E3.out.alloc (.cells (sLegs 200000 (-200000)).toArray 132)).alloc (.cells (sEnt 4 W3.heap.size).toArray 82))
  have M4 := Aside0.mk ((Blk.new W3 (sLegs 200000 (-200000)) 132).alloc (.cells (sEnt 4 W3.heap.size).toArray 82))
  have F4 := Aside0.mk (Blk.newAt (W3.alloc (.cells (sLegs 200000 (-200000)).toArray 132)) (g := W3.heap.size + 1) (by simp) (sEnt 4 W3.heap.size) 82)
  have HW4 := Aside0.mk ((HW3.out.alloc HW3.out.size (.cells (sLegs 200000 (-200000)).toArray 132)).alloc (by have := HW3.out.size; simp; omega) (.cells (sEnt 4 W3.heap.size).toArray 82))
  have O4 := Aside0.mk E3.out.lt
  clear G3 T3 X3 A3 L3 E3 HW3
  generalize World.alloc _ _ = W4 at *
  generalize W3.heap.size = gm at *
  go_wp2_with (first
    | (refine ld_rng rfl 94 _ rfl (p := ⟨w.heap.size + 1 + 1, 0, none⟩) rfl (cs := sInt (w.heap.size + 1)) X4.out.rng Try.underlying94 rfl ?_ ?_; kernel_rfl)
    | (refine ld_rng rfl 101 _ rfl (p := ⟨ga, 0, none⟩) rfl (cs := sAcc) (A4.out.alloc _).rng Try.underlying101 rfl ?_ ?_; kernel_rfl)
    | (refine ld_rng rfl 82 _ rfl (p := ⟨gl + 1, 0, none⟩) rfl (cs := sEnt 2 gl) ((E4.out.alloc _).alloc _).rng Try.underlying82 rfl ?_ ?_; kernel_rfl)
    | (refine ld_rng rfl 82 _ rfl (p := ⟨gm + 1, 0, none⟩) rfl (cs := sEnt 4 gm) ((F4.out.alloc _).alloc _).rng Try.underlying82 rfl ?_ ?_; kernel_rfl)
    | (refine st_blk rfl 63 _ _ rfl rfl (g := w.heap.size) (vs := sBks W4.heap.size (W4.heap.size + 1) (W4.heap.size + 1 + 1)) rfl rfl (((G4.out.alloc _).alloc _).alloc _) rfl ?_ (by simp [Value.oneCell']) ?_; kernel_rfl; intro J))
  have o2 := O2.out
  have o3 := O3.out
  have o4 := O4.out
  have o5 := F4.out.lt
  refine bodyPost_ret (ret_cell Try.results50 _ _ rfl J Try.underlying63 rfl (by kernel_rfl)) rfl ⟨_, rfl, samB_K (gt := w.heap.size + 1) (gp := W4.heap.size) (ga := W4.heap.size + 1) (gj := W4.heap.size + 1 + 1) (gl := gl) (gm := gm) ?_ ?_ ?_ ?_ ?_ ?_, Below.setCells _ (by omega) _ _ (((HW4.out.alloc HW4.out.size _).alloc (by have := HW4.out.size; simp; omega) _).alloc (by have := HW4.out.size; simp; omega) _)⟩
  · exact Blk.sets w.heap.size (by omega) _ _ (((Blk.new _ _ _).alloc _).alloc _)
  · exact Blk.sets w.heap.size (by omega) _ _ (((T4.out.alloc _).alloc _).alloc _)
  · exact Blk.sets w.heap.size (by omega) _ _ ((Blk.newAt _ (by simp) sAcc 101).alloc _)
  · exact Blk.sets w.heap.size (by omega) _ _ (Blk.newAt _ (by simp) (sEnt 2 gl ++ sEnt 4 gm) 82)
  · exact Blk.sets w.heap.size (by omega) _ _ (((L4.out.alloc _).alloc _).alloc _)
  · exact Blk.sets w.heap.size (by omega) _ _ (((M4.out.alloc _).alloc _).alloc _)
end Go.Proofs.Ytlmabdiodopidaa.G
end
section
namespace Go.RowKit
open Go.Proofs.YtlmabdiodopidaaW.PrintWords
/-- the cells of a row that is read -/
theorem C_news {α : Type} {d : Kd α} {w : World} {A : Option Addr} {n : Nat} {xs : List α} (h : d.C w A n xs) {ad : Addr} (hA : A = some ad) : ∃ news, Reps (d.K w) d.sz xs news ∧ (∀ j u, news[j]? = some u → w.cell? (ad.add j) = some u) ∧ ∀ u ∈ news, u.oneCell' = true := by
  have key : ∀ k, k ≤ n → ∃ news, Reps (d.K w) d.sz (xs.take k) news ∧ (∀ j u, news[j]? = some u → w.cell? (ad.add j) = some u) ∧ ∀ u ∈ news, u.oneCell' = true := by
    intro k
    induction k with
    | zero => intro _; exact ⟨[], by simpa using Reps.none _ _, by simp, by simp⟩
    | succ k ih =>
      intro hk
      obtain ⟨news, hR, hc, h1⟩ := ih (by omega)
      obtain ⟨ad', e, hh⟩ := h.2.2 (by omega)
      obtain rfl : ad' = ad := by rw [e] at hA; exact Option.some.inj hA
      have hl : k < xs.length := by have := h.1; omega
      obtain ⟨c, hcl, hK, hcell⟩ := hh k _ (List.getElem?_eq_getElem hl)
      have hnl : news.length = k * d.sz := by rw [hR.1, List.length_take, Nat.min_eq_left (by omega)]
      refine ⟨news ++ c, ?_, ?_, ?_⟩
      · rw [List.take_succ_eq_append_getElem hl]
        exact hR.snoc hK hcl
      · intro j u hj
        by_cases hj1 : j < news.length
        · rw [List.getElem?_append_left hj1] at hj
          exact hc j u hj
        · rw [List.getElem?_append_right (by omega)] at hj
          have := hcell _ u hj
          rwa [← hnl, Nat.add_sub_cancel' (by omega)] at this
      · intro u hu
        rcases List.mem_append.1 hu with hu | hu
        · exact h1 u hu
        · exact d.K_one hK u hu
  obtain ⟨news, hR, h2⟩ := key n (Nat.le_refl _)
  rw [List.take_of_length_le (by have := h.1; omega)] at hR
  exact ⟨news, hR, h2⟩
end Go.RowKit
namespace Go.Proofs.Ytlmabdiodopidaa.G
set_option maxRecDepth 100000
open Go.RowKit Go.Proofs.YtlmabdiodopidaaW.PrintWords Go.Proofs.YtlmabdiodopidaaW.PrintLast Go.Proofs.YtlmabdiodopidaaW.PrintMore Go.Proofs.Ytlmabdiodopidaa.P
set_option maxHeartbeats 300000 in
theorem clone_calls (A : Option Addr) (c : Nat) (l : List S50) (w0 w : World) (hb0 : Below w0.heap.size w0 w) (hr : Kd.C k50 w0 A l.length l) (hlen : l.length * 16 ≤ 140737488355328) :
    Calls Try.prog 97 #[.slice A l.length c] w fun e w' => ∃ A' c', e = .returned (.slice A' l.length c') ∧ Kd.R k50 50 w' w.heap.size (fun k => w.heap.size ≤ k) (.slice A' l.length c') l ∧ Below w.heap.size w w' := by
  have q22 : ∀ (w : World) (a : Option Addr) (n c n' c' : Nat), (binOp .eql 22 (.slice a n c) (.slice none n' c')).run Try.prog w = .ok (.bool a.isNone) w := fun w a n c n' c' => Lib.run_eql_slice_nil w _ _ a n c n' c' Try.underlying22
  have HR := Aside0.mk (Kd.C_below hr hb0)
  have HLN := Aside0.mk hlen
  clear hr hb0 hlen
  cases A with
  | none =>
    have hl0 : l = [] := by
      have h := HR.out.2.2
      by_cases h0 : 0 < l.length
      · obtain ⟨ad, e, _⟩ := h h0
        cases e
      · exact List.length_eq_zero_iff.1 (by omega)
    subst hl0
    go_enter Try.func97, Try.ntmps97
    go_wp2
    go_ret
    exact ⟨none, 0, rfl, ⟨by simp [Value.ownBlock], [], ⟨rfl, .inl ⟨rfl, rfl⟩⟩, Reps.none _ _⟩, Below.refl _ _⟩
  | some ad =>
    obtain ⟨i0, hi, hz0, hz1, hz2⟩ := info_parts (show (Try.prog.info? 50).map (fun i => (i.zero, i.size, i.bytes)) = some (some (.agg #[.int .i64 0, .int .i64 0]), 2, 16) by kernel_rfl)
    obtain ⟨news, hR, hc, h1⟩ := C_news HR.out rfl
    have RP := Aside0.mk hR
    have CC := Aside0.mk hc
    have H1 := Aside0.mk h1
    have I0 := Aside0.mk (And.intro hi (And.intro hz0 (And.intro hz1 hz2)))
    clear hR hc h1 hi hz0 hz1 hz2
    go_enter Try.func97, Try.ntmps97
    go_wp2_with (at_builtin; refine wpList_append_own _ rfl _ _ 22 rfl w.heap.size 50 i0 (.agg #[.int .i64 0, .int .i64 0]) 2 16 Try.underlying22 I0.out.1 I0.out.2.1 I0.out.2.2.1 I0.out.2.2.2 rfl (by decide) _ _ _ rfl (World.ownsRow_made w #[] 0 (Nat.le_refl _) (Nat.zero_le _) (by simp)) ad l.length c news rfl ?qc1 ?qc2 H1.out ?qc4 ?qc5 ?qc6 ?_)
    case qc1 => exact RP.out.1
    case qc2 =>
      intro j u hj
      exact Lib.cell?_alloc_some _ (CC.out j u hj)
    case qc4 => rw [Nat.zero_add]; exact Kd.C_max HR.out
    case qc5 => rw [Nat.zero_add]; exact HLN.out
    case qc6 => simp
    intro v' w1 hown hgrow hnil
    have hB := ((Below.refl _ w).alloc (Nat.le_refl _) _).grown hgrow (by simp) (by intro k hk; simp [Value.ownBlock] at hk; omega)
    have hRW : ∀ base ok, Reps (k50.M w1 base ok) 2 l news := fun base ok => RP.out.imp_ (fun p c hp => by
      obtain rfl := k50_open hp
      exact k50_mkM w1 base ok p)
    obtain ⟨A', c', rfl⟩ := own_slice hown
    have hRR : Kd.R k50 50 w1 w.heap.size (fun k => w.heap.size ≤ k) (.slice A' l.length c') l := ⟨fun k hk => own_base hown k hk, news, hown, hRW _ _⟩
    have HB := Aside0.mk hB
    have HRD := Aside0.mk hRR
    clear hown hgrow hnil hB hRW hRR RP CC H1
    go_wp2
    go_ret
    exact ⟨_, _, rfl, HRD.out, HB.out⟩
theorem intr_get {w : World} {x : Intr} {cs : List Value} (h : kIntr.K w x cs) : ∃ A c, cs.length = 5 ∧ cs[0]? = some (.slice A x.tiers.length c) ∧ cs[1]? = some (.bool x.marg) ∧ cs[2]? = some (.int .i64 x.basis) ∧ x.tiers.length ≤ c ∧ Kd.C k50 w A x.tiers.length x.tiers := by
  obtain ⟨A, c, rfl, hl, hC⟩ := kIntr_open h
  exact ⟨A, c, rfl, rfl, rfl, rfl, hl, hC⟩
theorem intr_set {w w1 : World} {x : Intr} {cs : List Value} (h : kIntr.K w x cs) {A : Option Addr} {c : Nat} (hl : x.tiers.length ≤ c) (hC : Kd.C k50 w1 A x.tiers.length x.tiers) : kIntr.K w1 x (cs.set 0 (.slice A x.tiers.length c)) := by
  obtain ⟨_, _, rfl, ⟨A', c', rfl, hl', hC'⟩, h2⟩ := h
  exact ⟨_, _, rfl, ⟨A, c, rfl, hl, hC⟩, h2⟩
theorem prd_sides {w : World} {x : Prd} {cs : List Value} (h : kPrd.K w x cs) : cs.length = 19 ∧ kIntr.K w x.cr ((cs.drop 7).take 5) ∧ kIntr.K w x.db ((cs.drop 12).take 5) := by
  obtain ⟨_, _, rfl, rfl, _, _, rfl, ⟨rfl, h1⟩, _, _, rfl, ⟨rfl, h2⟩, _, _, rfl, rfl, _, _, rfl, ⟨rfl, h4⟩, _, _, rfl, ⟨rfl, h5⟩, _, _, rfl, ⟨rfl, h6⟩, c1, _, rfl, k1, c2, _, rfl, k2, _, _, rfl, ⟨rfl, h7⟩, ⟨rfl, h8⟩⟩ := h
  obtain ⟨A1, b1, e1, _⟩ := kIntr_open k1
  obtain ⟨A2, b2, e2, _⟩ := kIntr_open k2
  refine ⟨?_, ?_, ?_⟩
  · rw [e1, e2]; rfl
  · rw [e1] at k1 ⊢; rw [e2]; exact k1
  · rw [e2] at k2 ⊢; rw [e1]; exact k2
/-- the interest of a side -/
def sideP (p : Prd) (bal : Int) : Intr := if bal < 0 then p.db else p.cr
abbrev zIn : List Value := [.slice none 0 0, .bool false, .int .i64 0, .int .i64 0, .bool false]
set_option maxHeartbeats 300000 in
theorem side_calls (cs : List Value) (p : Prd) (bal : Int) (w0 w : World) (hb0 : Below w0.heap.size w0 w) (hk : kPrd.K w0 p cs) (h20 : p.cr.tiers.length * 16 ≤ 140737488355328 ∧ p.db.tiers.length * 16 ≤ 140737488355328) :
    Calls Try.prog 90 #[.agg cs.toArray, .int .i64 bal] w fun e w' => ∃ ci, e = .returned (.agg ci.toArray) ∧ kIntr.K w' (sideP p bal) ci ∧ Below w.heap.size w w' := by
  obtain ⟨hl, k1, k2⟩ := prd_sides hk
  have K1 := Aside0.mk k1
  have K2 := Aside0.mk k2
  have HB0 := Aside0.mk hb0
  have L1 : Aside0 (((cs.drop 7).take 5).length = 5) := ⟨by simp; omega⟩
  have L2 : Aside0 (((cs.drop 12).take 5).length = 5) := ⟨by simp; omega⟩
  clear hk k1 k2 hb0 hl
  have WB := (((Below.refl w.heap.size w).alloc (Nat.le_refl _) (.cells cs.toArray 98)).alloc (by simp) (.cells zIn.toArray 94))
  have BX := ((Blk.new w cs 98).alloc (.cells zIn.toArray 94)).rng
  have BX1 := Aside0.mk (((Blk.new w cs 98).alloc (.cells zIn.toArray 94)).alloc (.cells ((cs.drop 7).take 5).toArray 94)).rng
  have WB0 := Aside0.mk WB
  have BX0 := Aside0.mk BX
  clear WB BX
  by_cases h : bal < 0
  · have e : sideP p bal = p.db := by unfold sideP; rw [if_pos h]
    have HLN := Aside0.mk h20.2
    clear h20
    rw [e]
    clear e
    obtain ⟨At, ct, -, i0, -, -, hlt, hCt⟩ := intr_get K2.out
    have HC := Aside0.mk hCt
    clear hCt
    have hx : ∀ W : World, ∀ W1, Below W.heap.size W W1 → True := fun _ _ _ => trivial
    clear hx
    go_enter Try.func90, Try.ntmps90
    go_upto_region 4 with (first
      | (refine ld_rng rfl 94 _ rfl (p := ⟨w.heap.size, 7, none⟩) rfl (cs := (cs.drop 7).take 5) ?_ Try.underlying94 rfl ?_ ?_; (exact BX0.out.part 7 5); (rw [L1.out]; kernel_rfl))
      | (refine st_newAt rfl 94 _ _ rfl rfl (g := w.heap.size + 1 + 1) (cs := zIn) (vs := (cs.drop 7).take 5) rfl rfl (by simp) L1.out ?_ (kIntr.K_one K1.out) ?_; (rw [L1.out]; kernel_rfl))
      | (refine ld_rng rfl 94 _ rfl (p := ⟨w.heap.size, 12, none⟩) rfl (cs := (cs.drop 12).take 5) ?_ Try.underlying94 rfl ?_ ?_; (exact BX1.out.part 12 5); (rw [L2.out]; kernel_rfl))
      | (refine st_newAt rfl 94 _ _ rfl rfl (g := w.heap.size + 1 + 1) (cs := (cs.drop 7).take 5) (vs := (cs.drop 12).take 5) rfl rfl (by simp) (L2.out.trans L1.out.symm) ?_ (kIntr.K_one K2.out) ?_; (rw [L2.out]; kernel_rfl)))
    have B0 := Blk.newAt ((w.alloc (.cells cs.toArray 98)).alloc (.cells zIn.toArray 94)) (g := w.heap.size + 1 + 1) (by simp) ((cs.drop 12).take 5) 94
    have SZ : Aside0 (w.heap.size + 3 ≤ (((w.alloc (.cells cs.toArray 98)).alloc (.cells zIn.toArray 94)).alloc (.cells ((cs.drop 12).take 5).toArray 94)).heap.size) := ⟨by simp⟩
    have HW := Aside0.mk (WB0.out.alloc (by simp; omega) (.cells ((cs.drop 12).take 5).toArray 94))
    have R0 := (Blk.newAt (w.alloc (.cells cs.toArray 98)) (g := w.heap.size + 1) (by simp) zIn 94).alloc (.cells ((cs.drop 12).take 5).toArray 94)
    have x0 := (B0.cell 0).trans i0
    generalize hci : (cs.drop 12).take 5 = ci at *
    clear hci
    have I0 := Aside0.mk i0
    clear i0
    generalize ((w.alloc (.cells cs.toArray 98)).alloc (.cells zIn.toArray 94)).alloc (.cells ci.toArray 94) = W at *
    go_wp2_with (first
      | (go_at_call 97; refine (clone_calls At ct p.db.tiers w0 _ ?_ HC.out HLN.out).mono ?_; (exact bstep HB0.out HW.out); rintro e w1 ⟨A', c', rfl, hC', hb1⟩; have B1 := B0.below hb1; have R1 := R0.below hb1; have KR := Aside0.mk hC'; obtain ⟨hn', hl', hC''⟩ := Kd.R_reads' hC'; have KK := Aside0.mk (intr_set K2.out hl' hC''); have HB1 := Aside0.mk (bstep HW.out hb1); have y0 := (B1.cell 0).trans I0.out; have z0 := B1.frozen 0; clear hb1 hC' hC'' hn')
      | (refine ld_rng rfl 94 _ rfl (p := ⟨w.heap.size + 1 + 1, 0, none⟩) rfl (cs := ci.set 0 (.slice A' p.db.tiers.length c')) ?_ Try.underlying94 rfl ?_ ?_; (exact (B1.setc 0 _).rng); (rw [List.length_set, L2.out]; kernel_rfl))
      | (refine st_blk rfl 94 _ _ rfl rfl (g := w.heap.size + 1) (vs := ci.set 0 (.slice A' p.db.tiers.length c')) rfl rfl (R1.set (p := ⟨w.heap.size + 1 + 1, 0, none⟩) (by simp) _) ?_ ?_ (kIntr.K_one KK.out) ?_; (exact (List.length_set).trans L2.out); (rw [List.length_set, L2.out]; kernel_rfl); intro B4))
    exact bodyPost_ret (ret_cell Try.results90 _ _ rfl B4 Try.underlying94 rfl (by rw [List.length_set, L2.out]; kernel_rfl)) rfl (by
      refine ⟨_, rfl, ?_, Below.setCells _ (by omega) _ _ (HB1.out.setCell (by simp; omega) _)⟩
      have hm := Kd.R_step KR.out (w1 := (w1.setCell ⟨w.heap.size + 1 + 1, 0, none⟩ (.slice A' p.db.tiers.length c')).setCells (w.heap.size + 1) 0 (ci.set 0 (.slice A' p.db.tiers.length c'))) (fun k hk hlt => by
        have hk' : w.heap.size + 3 ≤ k := Nat.le_trans SZ.out hk
        rw [heap_setCells _ _ (by omega), Below.heap_setCell _ _ _ _ (by simp; omega)])
      obtain ⟨_, hl2, hC2⟩ := Kd.R_reads' hm
      exact intr_set K2.out hl2 hC2)
  · have e : sideP p bal = p.cr := by unfold sideP; rw [if_neg h]
    have HLN := Aside0.mk h20.1
    clear h20
    rw [e]
    clear e
    obtain ⟨At, ct, -, i0, -, -, hlt, hCt⟩ := intr_get K1.out
    have HC := Aside0.mk hCt
    clear hCt
    have hx : ∀ W : World, ∀ W1, Below W.heap.size W W1 → True := fun _ _ _ => trivial
    clear hx
    go_enter Try.func90, Try.ntmps90
    go_upto_region 4 with (first
      | (refine ld_rng rfl 94 _ rfl (p := ⟨w.heap.size, 7, none⟩) rfl (cs := (cs.drop 7).take 5) ?_ Try.underlying94 rfl ?_ ?_; (exact BX0.out.part 7 5); (rw [L1.out]; kernel_rfl))
      | (refine st_newAt rfl 94 _ _ rfl rfl (g := w.heap.size + 1 + 1) (cs := zIn) (vs := (cs.drop 7).take 5) rfl rfl (by simp) L1.out ?_ (kIntr.K_one K1.out) ?_; (rw [L1.out]; kernel_rfl)))
    have B0 := Blk.newAt ((w.alloc (.cells cs.toArray 98)).alloc (.cells zIn.toArray 94)) (g := w.heap.size + 1 + 1) (by simp) ((cs.drop 7).take 5) 94
    have SZ : Aside0 (w.heap.size + 3 ≤ (((w.alloc (.cells cs.toArray 98)).alloc (.cells zIn.toArray 94)).alloc (.cells ((cs.drop 7).take 5).toArray 94)).heap.size) := ⟨by simp⟩
    have HW := Aside0.mk (WB0.out.alloc (by simp; omega) (.cells ((cs.drop 7).take 5).toArray 94))
    have R0 := (Blk.newAt (w.alloc (.cells cs.toArray 98)) (g := w.heap.size + 1) (by simp) zIn 94).alloc (.cells ((cs.drop 7).take 5).toArray 94)
    have x0 := (B0.cell 0).trans i0
    generalize hci : (cs.drop 7).take 5 = ci at *
    clear hci
    have I0 := Aside0.mk i0
    clear i0
    generalize ((w.alloc (.cells cs.toArray 98)).alloc (.cells zIn.toArray 94)).alloc (.cells ci.toArray 94) = W at *
    go_wp2_with (first
      | (go_at_call 97; refine (clone_calls At ct p.cr.tiers w0 _ ?_ HC.out HLN.out).mono ?_; (exact bstep HB0.out HW.out); rintro e w1 ⟨A', c', rfl, hC', hb1⟩; have B1 := B0.below hb1; have R1 := R0.below hb1; have KR := Aside0.mk hC'; obtain ⟨hn', hl', hC''⟩ := Kd.R_reads' hC'; have KK := Aside0.mk (intr_set K1.out hl' hC''); have HB1 := Aside0.mk (bstep HW.out hb1); have y0 := (B1.cell 0).trans I0.out; have z0 := B1.frozen 0; clear hb1 hC' hC'' hn')
      | (refine ld_rng rfl 94 _ rfl (p := ⟨w.heap.size + 1 + 1, 0, none⟩) rfl (cs := ci.set 0 (.slice A' p.cr.tiers.length c')) ?_ Try.underlying94 rfl ?_ ?_; (exact (B1.setc 0 _).rng); (rw [List.length_set, L1.out]; kernel_rfl))
      | (refine st_blk rfl 94 _ _ rfl rfl (g := w.heap.size + 1) (vs := ci.set 0 (.slice A' p.cr.tiers.length c')) rfl rfl (R1.set (p := ⟨w.heap.size + 1 + 1, 0, none⟩) (by simp) _) ?_ ?_ (kIntr.K_one KK.out) ?_; (exact (List.length_set).trans L1.out); (rw [List.length_set, L1.out]; kernel_rfl); intro B4))
    exact bodyPost_ret (ret_cell Try.results90 _ _ rfl B4 Try.underlying94 rfl (by rw [List.length_set, L1.out]; kernel_rfl)) rfl (by
      refine ⟨_, rfl, ?_, Below.setCells _ (by omega) _ _ (HB1.out.setCell (by simp; omega) _)⟩
      have hm := Kd.R_step KR.out (w1 := (w1.setCell ⟨w.heap.size + 1 + 1, 0, none⟩ (.slice A' p.cr.tiers.length c')).setCells (w.heap.size + 1) 0 (ci.set 0 (.slice A' p.cr.tiers.length c'))) (fun k hk hlt => by
        have hk' : w.heap.size + 3 ≤ k := Nat.le_trans SZ.out hk
        rw [heap_setCells _ _ (by omega), Below.heap_setCell _ _ _ _ (by simp; omega)])
      obtain ⟨_, hl2, hC2⟩ := Kd.R_reads' hm
      exact intr_set K1.out hl2 hC2)
end Go.Proofs.Ytlmabdiodopidaa.G
end
section
namespace Go.Proofs.Ytlmabdiodopidaa.P
open Go.Proofs.Ytlmabdiodopidaa.G
attribute [local go_sem high] un_not64 un_noti run_add64
open Go.RowKit Go.Proofs.YtlmabdiodopidaaW.PrintWords Go.Proofs.YtlmabdiodopidaaW.PrintLast Go.Proofs.YtlmabdiodopidaaW.PrintMore
attribute [local go_sem] max2_int min2_int max_two min_two max_three min_three max_four min_four   -- for this text's walks alone
set_option linter.unusedVariables false
set_option linter.unusedSimpArgs false

/-! ### tier_size: function 42 -/
def tier_size.f (a0 : Int) : Option (Int) := if a0 < (-9223372036854775807) then (some 9223372036854775807) else (some (mx a0 (wrap64 (-a0))))
set_option maxHeartbeats 8000000 in
set_option maxRecDepth 100000 in
theorem tier_size.calls (a0 : Int) (r : Int) (w : World) (h : tier_size.f a0 = some r) :
    Calls Try.prog 42 #[.int .i64 a0] w fun e w' => e = .returned (.int .i64 r) ∧ Below w.heap.size w w' := by
  have HB := Aside0.mk (Below.refl w.heap.size w)
  have H : (if a0 < (-9223372036854775807) then (some 9223372036854775807) else (some (mx a0 (wrap64 (-a0))))) = some r := h
  clear h
  by_cases c2 : a0 < (-9223372036854775807)
  · rw [if_pos c2] at H
    have c2b0 : decide (a0 < (-9223372036854775807)) = true := decide_eq_true c2
    clear c2
    obtain rfl := Option.some.inj H
    go_enter Try.func42, Try.ntmps42
    go_wp2
    go_ret
    exact ⟨by first | rfl | (simp [errW_none, errW_some] <;> rfl) | (simp [*, errW_none, errW_some] <;> rfl), hq HB⟩
  · rw [if_neg c2] at H
    have c2b0 : decide (a0 < (-9223372036854775807)) = false := decide_eq_false c2
    clear c2
    obtain ⟨ji3, hji3⟩ : ∃ j_ : Int, (mx a0 (wrap64 (-a0))) = j_ := ⟨_, rfl⟩
    replace H : (some ji3) = some r := by first | (rw [hji3] at H; exact H) | (simp only [hji3] at H ⊢; exact H)
    have hji3_ : (if a0 < (wrap64 (-a0)) then (wrap64 (-a0)) else a0) = ji3 := hji3
    obtain rfl := Option.some.inj H
    go_enter Try.func42, Try.ntmps42
    go_wp2
    go_ret
    exact ⟨by first | rfl | (simp [errW_none, errW_some] <;> rfl) | (simp only [← hji3]; first | rfl | (simp [errW_none, errW_some] <;> rfl)) | (simp [*, errW_none, errW_some] <;> rfl), hq HB⟩

/-! ### tier_Rate: function 19 -/
def tier_Rate.l0 : Nat → Int → Int → List (S50) → Int → Int → Option (Int)
  | 0, _, _, _, _, _ => none
  | k + 1, x1, x5, x11, x12, x13 => if x13 < x12 then (if 0 ≤ x13 then (if x13 < (x11.length : Int) then ((tier_size.f x1).bind fun t153 => (if ((rd_T50 x11 x13).f0) ≤ t153 then (tier_Rate.l0 k x1 ((rd_T50 x11 x13).f1) x11 x12 (wrap64 (x13 + 1))) else (tier_Rate.l0 k x1 x5 x11 x12 (wrap64 (x13 + 1))))) else (none)) else (none)) else (some x5)
def tier_Rate.f (k : Nat) (l0 : List (S50)) (a1 : Int) : Option (Int) := (tier_Check.f l0).bind fun t150 => (if t150 = 0 then (tier_Rate.l0 k a1 0 l0 (l0.length : Int) 0) else (some 0))
theorem tier_Rate.mono_l : ∀ k, (∀ y0 y1 y2 y3 y4, LeO (tier_Rate.l0 k y0 y1 y2 y3 y4) (tier_Rate.l0 (k + 1) y0 y1 y2 y3 y4))
  | 0 => fun _ _ _ _ _ r h => by simp [tier_Rate.l0] at h
  | k + 1 => by
    have ih0 := tier_Rate.mono_l k
    · intro y0 y1 y2 y3 y4
      unfold tier_Rate.l0
      repeat' first
      | (with_reducible exact ih0 _ _ _ _ _)
      | (with_reducible exact LeO.refl _)
      | (with_reducible exact LeO.none _)
      | (with_reducible refine LeO.ite ?_ ?_)
      | (with_reducible refine LeO.bind ?_ (fun _ => ?_))
      | exact ih0 _ _ _ _ _
      | exact LeO.none _
      | refine LeO.ite ?_ ?_
      | refine LeO.bind ?_ (fun _ => ?_)
theorem tier_Rate.mono : ∀ a0 a1 k, LeO (tier_Rate.f k a0 a1) (tier_Rate.f (k + 1) a0 a1) := by
  intro a0 a1 k
  have ih0 := tier_Rate.mono_l k
  unfold tier_Rate.f
  repeat' first
      | (with_reducible exact ih0 _ _ _ _ _)
      | (with_reducible exact LeO.refl _)
      | (with_reducible exact LeO.none _)
      | (with_reducible refine LeO.ite ?_ ?_)
      | (with_reducible refine LeO.bind ?_ (fun _ => ?_))
      | exact ih0 _ _ _ _ _
      | exact LeO.none _
      | refine LeO.ite ?_ ?_
      | refine LeO.bind ?_ (fun _ => ?_)
set_option maxHeartbeats 8000000 in
set_option maxRecDepth 100000 in
theorem tier_Rate.calls (k : Nat) (A0 : Option Addr) (c0 : Nat) (l0 : List (S50)) (a1 : Int) (r : Int) (w : World) (hr0 : Kd.C k50 w A0 l0.length l0) (hc0 : l0.length ≤ c0) (h : tier_Rate.f k l0 a1 = some r) :
    Calls Try.prog 19 #[.slice A0 l0.length c0, .int .i64 a1] w fun e w' => e = .returned (.int .i64 r) ∧ Below w.heap.size w w' := by
  have hu50 := Try.underlying50
  have HR0 := Aside0.mk hr0
  have HC0 := Aside0.mk hc0
  clear hr0 hc0
  have HB := Aside0.mk (Below.refl w.heap.size w)
  have H : ((tier_Check.f l0).bind fun t150 => (if t150 = 0 then (tier_Rate.l0 k a1 0 l0 (l0.length : Int) 0) else (some 0))) = some r := h
  clear h
  replace H := Option.bind_eq_some_iff.mp H
  obtain ⟨t150, A30, H⟩ := H
  replace H : (if t150 = 0 then (tier_Rate.l0 k a1 0 l0 (l0.length : Int) 0) else (some 0)) = some r := H
  have A3 := Aside0.mk A30
  clear A30
  by_cases c4 : t150 = 0
  · rw [if_pos c4] at H
    have c4b0 : (t150 == 0) = true := beq_iff_eq.mpr c4
    have c4b1 : (t150 != 0) = false := bne_eq_false_iff_eq.mpr c4
    clear c4
    have H' := Aside0.mk H
    clear H
    go_enter Try.func19, Try.ntmps19
    go_wp2_with (first | ((with_reducible refine gate_callee (f := 16) rfl ?_); refine goesL_ (some 9) rfl rfl Try.func16 (by kernel_rfl) rfl #[.slice A0 l0.length c0] rfl zm ?_; (with_reducible refine (tier_Check.calls _ _ l0 t150 _ ?side1 ?side2 A3.out).mono ?_); (case side1 => repeat (first | exact HR0.out | (with_reducible refine Kd.C_alloc ?_ _) | (with_reducible refine Kd.C_drewN ?_ _) | (with_reducible refine Kd.C_drew ?_))); (case side2 => exact HC0.out); rintro e w5 ⟨rfl, hb⟩; refine ⟨_, rfl, ?_⟩; replace HB := bs HB hb; (try clear hb); (try clear hb2); (try clear hk); (try clear hi)))
    go_loopg [5, 13] k (fun kq v5 v13 w' => ∃ (x5_1 : Int) (x13_1 : Int), v5 = .int .i64 x5_1 ∧ v13 = .int .i64 x13_1 ∧ Aside0 (tier_Rate.l0 kq a1 x5_1 l0 (l0.length : Int) x13_1 = some r) ∧ Aside0 (kq ≤ k) ∧ Aside0 (Below w.heap.size w w'))
    case atStart => exact ⟨(0), (0), (by first | rfl | (simp; done) | (simp [*]; done)), (by first | rfl | (simp; done) | (simp [*]; done)), H', ⟨Nat.le_refl _⟩, ⟨hq HB⟩⟩
    case round =>
      clear H'
      try clear c1
      try clear p2
      try clear c4
      try clear c4b0
      try clear c4b1
      obtain ⟨x5_1, x13_1, rfl, rfl, HA, HK1, HB⟩ := hrel
      cases gk with
      | zero => exact absurd HA.out (by simp [tier_Rate.l0])
      | succ k1 =>
        have H := HA.out
        clear HA
        simp only [tier_Rate.l0] at H
        by_cases c6 : x13_1 < (l0.length : Int)
        · rw [if_pos c6] at H
          have c6b0 : decide (x13_1 < (l0.length : Int)) = true := decide_eq_true c6
          clear c6
          by_cases c7 : 0 ≤ x13_1
          · rw [if_pos c7] at H
            have c7b0 : decide (0 ≤ x13_1) = true := decide_eq_true c7
            clear c7
            by_cases c8 : x13_1 < (l0.length : Int)
            · rw [if_pos c8] at H
              have c8b0 : decide (x13_1 < (l0.length : Int)) = true := decide_eq_true c8
              clear c8
              replace H := Option.bind_eq_some_iff.mp H
              obtain ⟨t153, A90, H⟩ := H
              replace H : (if ((rd_T50 l0 x13_1).f0) ≤ t153 then (tier_Rate.l0 k1 a1 ((rd_T50 l0 x13_1).f1) l0 (l0.length : Int) (wrap64 (x13_1 + 1))) else (tier_Rate.l0 k1 a1 x5_1 l0 (l0.length : Int) (wrap64 (x13_1 + 1)))) = some r := H
              have A9 := Aside0.mk A90
              clear A90
              by_cases c10 : ((rd_T50 l0 x13_1).f0) ≤ t153
              · rw [if_pos c10] at H
                have c10b0 : decide (((rd_T50 l0 x13_1).f0) ≤ t153) = true := decide_eq_true c10
                clear c10
                have H' := Aside0.mk H
                clear H
                have p151 : 0 ≤ (x13_1 : Int) := of_decide_eq_true (by first | (with_reducible assumption) | assumption)
                have q151 : x13_1 < (l0.length : Int) := of_decide_eq_true (by first | (with_reducible assumption) | assumption)
                obtain ⟨ad151, e151, hx151_0, hx151_1⟩ := at_T50 HR0.out x13_1 p151 q151
                cases e151
                replace hx151_0 := (HB.out.cell (World.block_lt_of_cell? w _ hx151_0)).trans hx151_0
                replace hx151_1 := (HB.out.cell (World.block_lt_of_cell? w _ hx151_1)).trans hx151_1
                replace p151 := eq_true p151
                replace q151 := eq_true q151
                try go_wp2_with (first | ((with_reducible refine gate_dst (N := 7) rfl ?_); refine box_event ?hg (N := 7) ?hd (cs := #[.int .i64 0, .int .i64 0]) (t := 50) ?hr ?_; (case hd => rfl); (case hg => rfl); (case hr => first | (go_simp; done) | (go_simp; rfl)); intro gb152 hg w11 hbox hb; have BK152 := Aside0.mk (hbox); have GW152 := ge HB hg; have GE152 := ge HB hg; replace HB := bs HB hb; clear hb hbox hg; obtain ⟨hcz12_0, hcz12_1, hfz12_0, hfz12_1⟩ := cz2 BK152))
                have n0_ : Aside0 (((w11.setCell ⟨gb152, 0, none⟩ (.int .i64 ((rd_T50 l0 x13_1).f0))).setCell ⟨gb152, 1, none⟩ (.int .i64 ((rd_T50 l0 x13_1).f1))).heap[gb152]? = some (.cells #[.int .i64 ((rd_T50 l0 x13_1).f0), .int .i64 ((rd_T50 l0 x13_1).f1)] 50 (0, 0))) := ⟨bp BK152⟩
                have n1_ : Aside0 (Below w.heap.size w ((w11.setCell ⟨gb152, 0, none⟩ (.int .i64 ((rd_T50 l0 x13_1).f0))).setCell ⟨gb152, 1, none⟩ (.int .i64 ((rd_T50 l0 x13_1).f1)))) := ⟨hq HB⟩
                (try clear BK152)
                (try clear HB)
                generalize ((w11.setCell ⟨gb152, 0, none⟩ (.int .i64 ((rd_T50 l0 x13_1).f0))).setCell ⟨gb152, 1, none⟩ (.int .i64 ((rd_T50 l0 x13_1).f1))) = w13 at n0_ n1_ ⊢
                have BK152 := n0_
                have HB := n1_
                clear n0_ n1_
                replace BK152 := bd1 BK152
                replace HB := hb1 HB
                refine start_ (n := 5) (S := fun w' => w'.cell? ⟨gb152, 0, none⟩ = some (.int .i64 ((rd_T50 l0 x13_1).f0)) ∧ w'.cell? ⟨gb152, 1, none⟩ = some (.int .i64 ((rd_T50 l0 x13_1).f1))) (ds := []) #[false, false, false, false, false] (by kernel_rfl) rfl rfl ⟨(blk_cell BK152.out 0).trans rfl, (blk_cell BK152.out 1).trans rfl⟩ (fun hHeld => ?_)
                generalize w13.drew = w14 at BK152 HB hHeld ⊢
                refine pure_ (i := 0) (N := some 17) (v := ?_) (a' := ?_) #[true, false, false, false, false] rfl rfl (by kernel_rfl) (fun _ _ _ h => h) (Or.inl ⟨by rfl, ?_⟩) ?_ ?_
                rotate_left
                · intro w'
                  go_simp
                  with_reducible rfl
                rotate_left
                · simp only [Act.put, List.setIfInBounds_toArray, List.set_cons_zero, List.set_cons_succ, i64_w, i32_w]
                  rfl
                refine pure_ (i := 2) (N := some 19) (v := ?_) (a' := ?_) #[true, false, true, false, false] rfl rfl (by kernel_rfl) (fun _ _ _ h => h) (Or.inl ⟨by rfl, ?_⟩) ?_ ?_
                rotate_left
                · intro w'
                  go_simp
                  with_reducible rfl
                rotate_left
                · simp only [Act.put, List.setIfInBounds_toArray, List.set_cons_zero, List.set_cons_succ, i64_w, i32_w]
                  rfl
                refine take_ (i := 1) (N := some 18) (v := ?_) (a' := ?_) #[true, true, true, false, false] rfl rfl (by kernel_rfl) (fun _ _ _ h => h) (Or.inl ⟨by rfl, ?_⟩) hHeld ?_ ?_
                rotate_left
                · rintro w' ⟨s0, s1⟩
                  go_simp
                  with_reducible rfl
                rotate_left
                · simp only [Act.put, List.setIfInBounds_toArray, List.set_cons_zero, List.set_cons_succ, i64_w, i32_w]
                  rfl
                refine one_ (i := 3) (N := some 20) #[true, true, true, true, false] rfl rfl (by kernel_rfl) (by decide) (fun K hK => ?_)
                refine goes_ Try.func42 (by kernel_rfl) rfl #[.int .i64 a1] (by rfl) rfl rfl zm ?_
                with_reducible refine (tier_size.calls a1 t153 _ A9.out).mono ?_
                rintro e w15 ⟨rfl, hb⟩
                refine ⟨_, rfl, ?_⟩
                replace BK152 := bb BK152 hb
                replace HB := bs HB hb
                (try clear hb)
                (try clear hb2)
                (try clear hk)
                (try clear hi)
                refine hK.out _ _ ⟨(blk_cell BK152.out 0).trans rfl, (blk_cell BK152.out 1).trans rfl⟩ (fun hHeld => ?_)
                clear hK K
                refine norm_ (a' := ?_) ?_ ?_
                rotate_left
                · show Act.put _ (some 20) _ = _
                  simp only [Act.put, List.setIfInBounds_toArray, List.set_cons_zero, List.set_cons_succ, i64_w, i32_w]
                  rfl
                refine pure_ (i := 4) (N := some 21) (v := ?_) (a' := ?_) #[true, true, true, true, true] rfl rfl (by kernel_rfl) (fun _ _ _ h => h) (Or.inl ⟨by rfl, ?_⟩) ?_ ?_
                rotate_left
                · intro w'
                  go_simp
                  with_reducible rfl
                rotate_left
                · simp only [Act.put, List.setIfInBounds_toArray, List.set_cons_zero, List.set_cons_succ, i64_w, i32_w]
                  rfl
                refine done_ (by kernel_rfl) ?_
                obtain ⟨hcz16_0, hcz16_1, hfz16_0, hfz16_1⟩ := cz2 BK152
                try go_wp2
                go_roundg k1
                case measure => have := HK1.out; omega
                case rel => exact ⟨((rd_T50 l0 x13_1).f1), (wrap64 (x13_1 + 1)), (by first | rfl | (simp; done) | (simp [*]; done)), (by first | rfl | (simp; done) | (simp [*]; done)), H', ⟨by have := HK1.out; omega⟩, ⟨hq HB⟩⟩
              · rw [if_neg c10] at H
                have c10b0 : decide (((rd_T50 l0 x13_1).f0) ≤ t153) = false := decide_eq_false c10
                clear c10
                have H' := Aside0.mk H
                clear H
                have p151 : 0 ≤ (x13_1 : Int) := of_decide_eq_true (by first | (with_reducible assumption) | assumption)
                have q151 : x13_1 < (l0.length : Int) := of_decide_eq_true (by first | (with_reducible assumption) | assumption)
                obtain ⟨ad151, e151, hx151_0, hx151_1⟩ := at_T50 HR0.out x13_1 p151 q151
                cases e151
                replace hx151_0 := (HB.out.cell (World.block_lt_of_cell? w _ hx151_0)).trans hx151_0
                replace hx151_1 := (HB.out.cell (World.block_lt_of_cell? w _ hx151_1)).trans hx151_1
                replace p151 := eq_true p151
                replace q151 := eq_true q151
                try go_wp2_with (first | ((with_reducible refine gate_dst (N := 7) rfl ?_); refine box_event ?hg (N := 7) ?hd (cs := #[.int .i64 0, .int .i64 0]) (t := 50) ?hr ?_; (case hd => rfl); (case hg => rfl); (case hr => first | (go_simp; done) | (go_simp; rfl)); intro gb152 hg w17 hbox hb; have BK152 := Aside0.mk (hbox); have GW152 := ge HB hg; have GE152 := ge HB hg; replace HB := bs HB hb; clear hb hbox hg; obtain ⟨hcz18_0, hcz18_1, hfz18_0, hfz18_1⟩ := cz2 BK152))
                have n0_ : Aside0 (((w17.setCell ⟨gb152, 0, none⟩ (.int .i64 ((rd_T50 l0 x13_1).f0))).setCell ⟨gb152, 1, none⟩ (.int .i64 ((rd_T50 l0 x13_1).f1))).heap[gb152]? = some (.cells #[.int .i64 ((rd_T50 l0 x13_1).f0), .int .i64 ((rd_T50 l0 x13_1).f1)] 50 (0, 0))) := ⟨bp BK152⟩
                have n1_ : Aside0 (Below w.heap.size w ((w17.setCell ⟨gb152, 0, none⟩ (.int .i64 ((rd_T50 l0 x13_1).f0))).setCell ⟨gb152, 1, none⟩ (.int .i64 ((rd_T50 l0 x13_1).f1)))) := ⟨hq HB⟩
                (try clear BK152)
                (try clear HB)
                generalize ((w17.setCell ⟨gb152, 0, none⟩ (.int .i64 ((rd_T50 l0 x13_1).f0))).setCell ⟨gb152, 1, none⟩ (.int .i64 ((rd_T50 l0 x13_1).f1))) = w19 at n0_ n1_ ⊢
                have BK152 := n0_
                have HB := n1_
                clear n0_ n1_
                replace BK152 := bd1 BK152
                replace HB := hb1 HB
                refine start_ (n := 5) (S := fun w' => w'.cell? ⟨gb152, 0, none⟩ = some (.int .i64 ((rd_T50 l0 x13_1).f0)) ∧ w'.cell? ⟨gb152, 1, none⟩ = some (.int .i64 ((rd_T50 l0 x13_1).f1))) (ds := []) #[false, false, false, false, false] (by kernel_rfl) rfl rfl ⟨(blk_cell BK152.out 0).trans rfl, (blk_cell BK152.out 1).trans rfl⟩ (fun hHeld => ?_)
                generalize w19.drew = w20 at BK152 HB hHeld ⊢
                refine pure_ (i := 0) (N := some 17) (v := ?_) (a' := ?_) #[true, false, false, false, false] rfl rfl (by kernel_rfl) (fun _ _ _ h => h) (Or.inl ⟨by rfl, ?_⟩) ?_ ?_
                rotate_left
                · intro w'
                  go_simp
                  with_reducible rfl
                rotate_left
                · simp only [Act.put, List.setIfInBounds_toArray, List.set_cons_zero, List.set_cons_succ, i64_w, i32_w]
                  rfl
                refine pure_ (i := 2) (N := some 19) (v := ?_) (a' := ?_) #[true, false, true, false, false] rfl rfl (by kernel_rfl) (fun _ _ _ h => h) (Or.inl ⟨by rfl, ?_⟩) ?_ ?_
                rotate_left
                · intro w'
                  go_simp
                  with_reducible rfl
                rotate_left
                · simp only [Act.put, List.setIfInBounds_toArray, List.set_cons_zero, List.set_cons_succ, i64_w, i32_w]
                  rfl
                refine take_ (i := 1) (N := some 18) (v := ?_) (a' := ?_) #[true, true, true, false, false] rfl rfl (by kernel_rfl) (fun _ _ _ h => h) (Or.inl ⟨by rfl, ?_⟩) hHeld ?_ ?_
                rotate_left
                · rintro w' ⟨s0, s1⟩
                  go_simp
                  with_reducible rfl
                rotate_left
                · simp only [Act.put, List.setIfInBounds_toArray, List.set_cons_zero, List.set_cons_succ, i64_w, i32_w]
                  rfl
                refine one_ (i := 3) (N := some 20) #[true, true, true, true, false] rfl rfl (by kernel_rfl) (by decide) (fun K hK => ?_)
                refine goes_ Try.func42 (by kernel_rfl) rfl #[.int .i64 a1] (by rfl) rfl rfl zm ?_
                with_reducible refine (tier_size.calls a1 t153 _ A9.out).mono ?_
                rintro e w21 ⟨rfl, hb⟩
                refine ⟨_, rfl, ?_⟩
                replace BK152 := bb BK152 hb
                replace HB := bs HB hb
                (try clear hb)
                (try clear hb2)
                (try clear hk)
                (try clear hi)
                refine hK.out _ _ ⟨(blk_cell BK152.out 0).trans rfl, (blk_cell BK152.out 1).trans rfl⟩ (fun hHeld => ?_)
                clear hK K
                refine norm_ (a' := ?_) ?_ ?_
                rotate_left
                · show Act.put _ (some 20) _ = _
                  simp only [Act.put, List.setIfInBounds_toArray, List.set_cons_zero, List.set_cons_succ, i64_w, i32_w]
                  rfl
                refine pure_ (i := 4) (N := some 21) (v := ?_) (a' := ?_) #[true, true, true, true, true] rfl rfl (by kernel_rfl) (fun _ _ _ h => h) (Or.inl ⟨by rfl, ?_⟩) ?_ ?_
                rotate_left
                · intro w'
                  go_simp
                  with_reducible rfl
                rotate_left
                · simp only [Act.put, List.setIfInBounds_toArray, List.set_cons_zero, List.set_cons_succ, i64_w, i32_w]
                  rfl
                refine done_ (by kernel_rfl) ?_
                try go_wp2
                go_roundg k1
                case measure => have := HK1.out; omega
                case rel => exact ⟨(x5_1), (wrap64 (x13_1 + 1)), (by first | rfl | (simp; done) | (simp [*]; done)), (by first | rfl | (simp; done) | (simp [*]; done)), H', ⟨by have := HK1.out; omega⟩, ⟨hq HB⟩⟩
            · rw [if_neg c8] at H
              exact absurd H (by simp)
          · rw [if_neg c7] at H
            exact absurd H (by simp)
        · rw [if_neg c6] at H
          have c6b0 : decide (x13_1 < (l0.length : Int)) = false := decide_eq_false c6
          clear c6
          obtain rfl := Option.some.inj H
          go_wp2
          go_ret
          exact ⟨by first | rfl | (simp [errW_none, errW_some] <;> rfl) | (simp [*, errW_none, errW_some] <;> rfl), hq HB⟩
  · rw [if_neg c4] at H
    have c4b0 : (t150 == 0) = false := beq_eq_false_iff_ne.mpr c4
    have c4b1 : (t150 != 0) = true := bne_iff_ne.mpr c4
    obtain rfl := Option.some.inj H
    go_enter Try.func19, Try.ntmps19
    go_wp2_with (first | ((with_reducible refine gate_callee (f := 16) rfl ?_); refine goesL_ (some 9) rfl rfl Try.func16 (by kernel_rfl) rfl #[.slice A0 l0.length c0] rfl zm ?_; (with_reducible refine (tier_Check.calls _ _ l0 t150 _ ?side1 ?side2 A3.out).mono ?_); (case side1 => repeat (first | exact HR0.out | (with_reducible refine Kd.C_alloc ?_ _) | (with_reducible refine Kd.C_drewN ?_ _) | (with_reducible refine Kd.C_drew ?_))); (case side2 => exact HC0.out); rintro e w22 ⟨rfl, hb⟩; refine ⟨_, rfl, ?_⟩; replace HB := bs HB hb; (try clear hb); (try clear hb2); (try clear hk); (try clear hi)))
    go_ret
    exact ⟨by first | rfl | (simp [errW_none, errW_some] <;> rfl) | (simp [*, errW_none, errW_some] <;> rfl), hq HB⟩

end Go.Proofs.Ytlmabdiodopidaa.P
end
section
namespace Go.Proofs.Ytlmabdiodopidaa.P
open Go.Proofs.Ytlmabdiodopidaa.G
attribute [local go_sem high] un_not64 un_noti run_add64
open Go.RowKit Go.Proofs.YtlmabdiodopidaaW.PrintWords Go.Proofs.YtlmabdiodopidaaW.PrintLast Go.Proofs.YtlmabdiodopidaaW.PrintMore
attribute [local go_sem] max2_int min2_int max_two min_two max_three min_three max_four min_four   -- for this text's walks alone
set_option linter.unusedVariables false
set_option linter.unusedSimpArgs false

/-! ### tier_Slices: function 22 -/
mutual
def tier_Slices.j0 : Nat → List (S50) → Bool → Int → Int → Bool → Option ((List (S43)))
  | 0, _, _, _, _, _ => none
  | k + 1, x0, x1, x2, x7, x25 => if x25 = true then (some ([] : List (S43))) else (if x1 = true then (tier_Slices.l0 k x0 x7 ([] : List (S43)) x0 (x0.length : Int) 0) else ((tier_Rate.f k x0 x2).bind fun t158 => (some (([(⟨x7, t158⟩ : S43)] : List (S43))))))
def tier_Slices.l0 : Nat → List (S50) → Int → List (S43) → List (S50) → Int → Int → Option ((List (S43)))
  | 0, _, _, _, _, _, _ => none
  | k + 1, x0, x7, x8, x34, x35, x36 => if x36 < x35 then (if 0 ≤ x36 then (if x36 < (x34.length : Int) then (if (wrap64 (x36 + 1)) < (x0.length : Int) then (if 0 ≤ (wrap64 (x36 + 1)) then (if (mn x7 ((rd_T50 x0 (wrap64 (x36 + 1))).f0)) > ((rd_T50 x34 x36).f0) then (if x8.length < 8796093022208 then (tier_Slices.l0 k x0 x7 (x8 ++ [(⟨wrap64 ((mn x7 ((rd_T50 x0 (wrap64 (x36 + 1))).f0)) - ((rd_T50 x34 x36).f0)), (rd_T50 x34 x36).f1⟩ : S43)]) x34 x35 (wrap64 (x36 + 1))) else (none)) else (tier_Slices.l0 k x0 x7 x8 x34 x35 (wrap64 (x36 + 1)))) else (none)) else (if x7 > ((rd_T50 x34 x36).f0) then (if x8.length < 8796093022208 then (tier_Slices.l0 k x0 x7 (x8 ++ [(⟨wrap64 (x7 - ((rd_T50 x34 x36).f0)), (rd_T50 x34 x36).f1⟩ : S43)]) x34 x35 (wrap64 (x36 + 1))) else (none)) else (tier_Slices.l0 k x0 x7 x8 x34 x35 (wrap64 (x36 + 1))))) else (none)) else (none)) else (some x8)
end
def tier_Slices.f (k : Nat) (l0 : List (S50)) (a1 : Bool) (a2 : Int) : Option ((List (S43))) := (tier_size.f a2).bind fun t156 => (if (l0.length : Int) = 0 then (tier_Slices.j0 k l0 a1 a2 t156 true) else ((tier_Check.f l0).bind fun t157 => (if t157 = 0 then (tier_Slices.j0 k l0 a1 a2 t156 (t156 == 0)) else (tier_Slices.j0 k l0 a1 a2 t156 true))))
theorem tier_Slices.mono_l : ∀ k, (∀ y0 y1 y2 y3 y4, LeO (tier_Slices.j0 k y0 y1 y2 y3 y4) (tier_Slices.j0 (k + 1) y0 y1 y2 y3 y4)) ∧ (∀ y0 y1 y2 y3 y4 y5, LeO (tier_Slices.l0 k y0 y1 y2 y3 y4 y5) (tier_Slices.l0 (k + 1) y0 y1 y2 y3 y4 y5))
  | 0 => ⟨fun _ _ _ _ _ r h => by simp [tier_Slices.j0] at h, fun _ _ _ _ _ _ r h => by simp [tier_Slices.l0] at h⟩
  | k + 1 => by
    obtain ⟨ih0, ih1⟩ := tier_Slices.mono_l k
    refine ⟨?_, ?_⟩
    · intro y0 y1 y2 y3 y4
      unfold tier_Slices.j0
      repeat' first
      | (with_reducible exact ih0 _ _ _ _ _)
      | (with_reducible exact ih1 _ _ _ _ _ _)
      | (with_reducible exact tier_Rate.mono _ _ _)
      | (with_reducible exact LeO.refl _)
      | (with_reducible exact LeO.none _)
      | (with_reducible refine LeO.ite ?_ ?_)
      | (with_reducible refine LeO.bind ?_ (fun _ => ?_))
      | exact ih0 _ _ _ _ _
      | exact ih1 _ _ _ _ _ _
      | exact tier_Rate.mono _ _ _
      | exact LeO.none _
      | refine LeO.ite ?_ ?_
      | refine LeO.bind ?_ (fun _ => ?_)
    · intro y0 y1 y2 y3 y4 y5
      unfold tier_Slices.l0
      repeat' first
      | (with_reducible exact ih0 _ _ _ _ _)
      | (with_reducible exact ih1 _ _ _ _ _ _)
      | (with_reducible exact tier_Rate.mono _ _ _)
      | (with_reducible exact LeO.refl _)
      | (with_reducible exact LeO.none _)
      | (with_reducible refine LeO.ite ?_ ?_)
      | (with_reducible refine LeO.bind ?_ (fun _ => ?_))
      | exact ih0 _ _ _ _ _
      | exact ih1 _ _ _ _ _ _
      | exact tier_Rate.mono _ _ _
      | exact LeO.none _
      | refine LeO.ite ?_ ?_
      | refine LeO.bind ?_ (fun _ => ?_)
theorem tier_Slices.mono : ∀ a0 a1 a2 k, LeO (tier_Slices.f k a0 a1 a2) (tier_Slices.f (k + 1) a0 a1 a2) := by
  intro a0 a1 a2 k
  obtain ⟨ih0, ih1⟩ := tier_Slices.mono_l k
  unfold tier_Slices.f
  repeat' first
      | (with_reducible exact ih0 _ _ _ _ _)
      | (with_reducible exact ih1 _ _ _ _ _ _)
      | (with_reducible exact tier_Rate.mono _ _ _)
      | (with_reducible exact LeO.refl _)
      | (with_reducible exact LeO.none _)
      | (with_reducible refine LeO.ite ?_ ?_)
      | (with_reducible refine LeO.bind ?_ (fun _ => ?_))
      | exact ih0 _ _ _ _ _
      | exact ih1 _ _ _ _ _ _
      | exact tier_Rate.mono _ _ _
      | exact LeO.none _
      | refine LeO.ite ?_ ?_
      | refine LeO.bind ?_ (fun _ => ?_)
set_option maxHeartbeats 8000000 in
set_option maxRecDepth 100000 in
theorem tier_Slices.calls (k : Nat) (A0 : Option Addr) (c0 : Nat) (l0 : List (S50)) (a1 : Bool) (a2 : Int) (r : List (S43)) (w : World) (hr0 : Kd.C k50 w A0 l0.length l0) (hc0 : l0.length ≤ c0) (h : tier_Slices.f k l0 a1 a2 = some r) :
    Calls Try.prog 22 #[.slice A0 l0.length c0, .bool a1, .int .i64 a2] w fun e w' => ∃ v0_ : Value, e = .returned (v0_) ∧ Kd.R k43 43 w' w.heap.size (fun _ => True) v0_ r ∧ Below w.heap.size w w' := by
  have hu43 := Try.underlying43
  have hu50 := Try.underlying50
  have HR0 := Aside0.mk hr0
  have HC0 := Aside0.mk hc0
  clear hr0 hc0
  have HB := Aside0.mk (Below.refl w.heap.size w)
  have H : ((tier_size.f a2).bind fun t156 => (if (l0.length : Int) = 0 then (tier_Slices.j0 k l0 a1 a2 t156 true) else ((tier_Check.f l0).bind fun t157 => (if t157 = 0 then (tier_Slices.j0 k l0 a1 a2 t156 (t156 == 0)) else (tier_Slices.j0 k l0 a1 a2 t156 true))))) = some r := h
  clear h
  replace H := Option.bind_eq_some_iff.mp H
  obtain ⟨t156, A40, H⟩ := H
  replace H : (if (l0.length : Int) = 0 then (tier_Slices.j0 k l0 a1 a2 t156 true) else ((tier_Check.f l0).bind fun t157 => (if t157 = 0 then (tier_Slices.j0 k l0 a1 a2 t156 (t156 == 0)) else (tier_Slices.j0 k l0 a1 a2 t156 true)))) = some r := H
  have A4 := Aside0.mk A40
  clear A40
  have HC5 := Aside0.mk H
  clear H
  go_enter Try.func22, Try.ntmps22
  go_upto_region 2 with (first | ((with_reducible refine gate_callee (f := 42) rfl ?_); refine goesL_ (some 13) rfl rfl Try.func42 (by kernel_rfl) rfl #[.int .i64 a2] rfl zm ?_; (with_reducible refine (tier_size.calls a2 t156 _ A4.out).mono ?_); rintro e w6 ⟨rfl, hb⟩; refine ⟨_, rfl, ?_⟩; replace HB := bs HB hb; (try clear hb); (try clear hb2); (try clear hk); (try clear hi)))
  (try simp only [Act.put, List.setIfInBounds_toArray, List.set_cons_zero, List.set_cons_succ])
  go_cut [25] (fun v25 wc => ∃ (kq : Nat) (x25_4 : Bool), v25 = .bool x25_4 ∧ Aside0 (tier_Slices.j0 kq l0 a1 a2 t156 x25_4 = some r) ∧ Aside0 (kq ≤ k) ∧ Aside0 (Below w.heap.size w wc))
  case first =>
    have H := HC5.out
    clear HC5
    by_cases c7 : (l0.length : Int) = 0
    · rw [if_pos c7] at H
      have c7b0 : ((l0.length : Int) == 0) = true := beq_iff_eq.mpr c7
      have c7b1 : ((l0.length : Int) != 0) = false := bne_eq_false_iff_eq.mpr c7
      clear c7
      (first | rw [c7b0] | (simp only [i64_w, i32_w]; rw [c7b0]) | skip)
      have H' := Aside0.mk H
      clear H
      go_wp2
      go_meet
      case rel => exact ⟨_, (true), (by first | rfl | (simp; done) | (simp [*]; done)), H', ⟨by first | omega | exact Nat.le_refl _⟩, ⟨hq HB⟩⟩
    · rw [if_neg c7] at H
      have c7b0 : ((l0.length : Int) == 0) = false := beq_eq_false_iff_ne.mpr c7
      have c7b1 : ((l0.length : Int) != 0) = true := bne_iff_ne.mpr c7
      have c7b2 : ¬ (l0 = []) := fun h_ => c7 (by rw [h_]; rfl)
      (first | rw [c7b0] | (simp only [i64_w, i32_w]; rw [c7b0]) | skip)
      replace H := Option.bind_eq_some_iff.mp H
      obtain ⟨t157, A80, H⟩ := H
      replace H : (if t157 = 0 then (tier_Slices.j0 k l0 a1 a2 t156 (t156 == 0)) else (tier_Slices.j0 k l0 a1 a2 t156 true)) = some r := H
      have A8 := Aside0.mk A80
      clear A80
      by_cases c9 : t157 = 0
      · rw [if_pos c9] at H
        have c9b0 : (t157 == 0) = true := beq_iff_eq.mpr c9
        have c9b1 : (t157 != 0) = false := bne_eq_false_iff_eq.mpr c9
        clear c9
        have H' := Aside0.mk H
        clear H
        go_wp2_with (first | (go_at_call 16; (with_reducible refine (tier_Check.calls _ _ l0 t157 _ ?side1 ?side2 A8.out).mono ?_); (case side1 => repeat (first | exact (Kd.C_below HR0.out HB.out) | (with_reducible refine Kd.C_alloc ?_ _) | (with_reducible refine Kd.C_drewN ?_ _) | (with_reducible refine Kd.C_drew ?_))); (case side2 => exact HC0.out); rintro e w10 ⟨rfl, hb⟩; replace HB := bs HB hb; (try clear hb); (try clear hb2); (try clear hk); (try clear hi)))
        go_meet
        case rel => exact ⟨_, ((t156 == 0)), (by first | rfl | (simp; done) | (simp [*]; done)), H', ⟨by first | omega | exact Nat.le_refl _⟩, ⟨hq HB⟩⟩
      · rw [if_neg c9] at H
        have c9b0 : (t157 == 0) = false := beq_eq_false_iff_ne.mpr c9
        have c9b1 : (t157 != 0) = true := bne_iff_ne.mpr c9
        have H' := Aside0.mk H
        clear H
        go_wp2_with (first | (go_at_call 16; (with_reducible refine (tier_Check.calls _ _ l0 t157 _ ?side1 ?side2 A8.out).mono ?_); (case side1 => repeat (first | exact (Kd.C_below HR0.out HB.out) | (with_reducible refine Kd.C_alloc ?_ _) | (with_reducible refine Kd.C_drewN ?_ _) | (with_reducible refine Kd.C_drew ?_))); (case side2 => exact HC0.out); rintro e w11 ⟨rfl, hb⟩; replace HB := bs HB hb; (try clear hb); (try clear hb2); (try clear hk); (try clear hi)))
        go_meet
        case rel => exact ⟨_, (true), (by first | rfl | (simp; done) | (simp [*]; done)), H', ⟨by first | omega | exact Nat.le_refl _⟩, ⟨hq HB⟩⟩
  case rest =>
    clear HC5
    try clear c2
    try clear p2
    try clear c4
    try clear c7
    try clear c7b0
    try clear c7b1
    try clear c7b2
    try clear c9
    try clear c9b0
    try clear c9b1
    obtain ⟨kq, x25_4, rfl, HA, HJ4, HB⟩ := hcut
    cases kq with
    | zero => exact absurd HA.out (by simp [tier_Slices.j0])
    | succ kj4 =>
      have H := HA.out
      clear HA
      simp only [tier_Slices.j0] at H
      by_cases c12 : x25_4 = true
      · subst c12
        have H1 : (some ([] : List (S43))) = some r := by rw [if_pos rfl] at H; exact H
        clear H
        have H := H1
        clear H1
        obtain rfl := Option.some.inj H
        go_wp2
        go_ret
        exact ⟨_, by first | rfl | (simp [errW_none, errW_some] <;> rfl) | (simp [*, errW_none, errW_some] <;> rfl), by first | exact Kd.R_nil _ _ _ _ _ | exact Kd.N_nil _ _ _ _ _ | exact Kd.V_nil _ _ _ _ _ | exact Kd.Q_nil _ _ _ _ _ | exact Kd.S_nil _ _ _ _ _, hq HB⟩
      · replace c12 := Bool.eq_false_iff.mpr c12
        subst c12
        have H1 : (if a1 = true then (tier_Slices.l0 kj4 l0 t156 ([] : List (S43)) l0 (l0.length : Int) 0) else ((tier_Rate.f kj4 l0 a2).bind fun t158 => (some (([(⟨t156, t158⟩ : S43)] : List (S43)))))) = some r := by rw [if_neg (show ¬ (false = true) by decide)] at H; exact H
        clear H
        have H := H1
        clear H1
        by_cases c13 : a1 = true
        · subst c13
          have H1 : (tier_Slices.l0 kj4 l0 t156 ([] : List (S43)) l0 (l0.length : Int) 0) = some r := by rw [if_pos rfl] at H; exact H
          clear H
          have H := H1
          clear H1
          have H' := Aside0.mk H
          clear H
          go_wp2
          go_loopg [8, 36] kj4 (fun kq v8 v36 w' => ∃ (x8_2 : List (S43)) (x36_2 : Int), v36 = .int .i64 x36_2 ∧ Aside0 (tier_Slices.l0 kq l0 t156 x8_2 l0 (l0.length : Int) x36_2 = some r) ∧ Aside0 (kq ≤ kj4) ∧ Aside0 (Kd.R k43 43 w' w.heap.size (fun _ => True) v8 x8_2) ∧ Aside0 (Below w.heap.size w w'))
          case atStart => exact ⟨(([] : List (S43))), (0), (by first | rfl | (simp; done) | (simp [*]; done)), H', ⟨Nat.le_refl _⟩, ⟨by first | exact Kd.R_nil _ _ _ _ _ | exact Kd.N_nil _ _ _ _ _ | exact Kd.V_nil _ _ _ _ _ | exact Kd.Q_nil _ _ _ _ _ | exact Kd.S_nil _ _ _ _ _⟩, ⟨hq HB⟩⟩
          case round =>
            clear H'
            try clear c1
            try clear c2
            try clear p2
            try clear c4
            try clear c7
            try clear c7b0
            try clear c7b1
            try clear c7b2
            try clear c9
            try clear c9b0
            try clear c9b1
            try clear c12
            try clear c13
            try clear p2
            obtain ⟨x8_2, x36_2, rfl, HA, HK2, HO_8, HB⟩ := hrel
            cases gk with
            | zero => exact absurd HA.out (by simp [tier_Slices.l0])
            | succ k2 =>
              have H := HA.out
              clear HA
              simp only [tier_Slices.l0] at H
              by_cases c14 : x36_2 < (l0.length : Int)
              · rw [if_pos c14] at H
                have c14b0 : decide (x36_2 < (l0.length : Int)) = true := decide_eq_true c14
                clear c14
                by_cases c15 : 0 ≤ x36_2
                · rw [if_pos c15] at H
                  have c15b0 : decide (0 ≤ x36_2) = true := decide_eq_true c15
                  clear c15
                  by_cases c16 : x36_2 < (l0.length : Int)
                  · rw [if_pos c16] at H
                    have c16b0 : decide (x36_2 < (l0.length : Int)) = true := decide_eq_true c16
                    clear c16
                    by_cases c17 : (wrap64 (x36_2 + 1)) < (l0.length : Int)
                    · rw [if_pos c17] at H
                      have c17b0 : decide ((wrap64 (x36_2 + 1)) < (l0.length : Int)) = true := decide_eq_true c17
                      clear c17
                      obtain ⟨ji18, hji18⟩ : ∃ j_ : Int, (wrap64 (x36_2 + 1)) = j_ := ⟨_, rfl⟩
                      replace H : (if 0 ≤ (ji18) then (if (mn t156 ((rd_T50 l0 (ji18)).f0)) > ((rd_T50 l0 x36_2).f0) then (if x8_2.length < 8796093022208 then (tier_Slices.l0 k2 l0 t156 (x8_2 ++ [(⟨wrap64 ((mn t156 ((rd_T50 l0 (ji18)).f0)) - ((rd_T50 l0 x36_2).f0)), (rd_T50 l0 x36_2).f1⟩ : S43)]) l0 (l0.length : Int) ji18) else (none)) else (tier_Slices.l0 k2 l0 t156 x8_2 l0 (l0.length : Int) ji18)) else (none)) = some r := by first | (rw [hji18] at H; exact H) | (simp only [hji18] at H ⊢; exact H)
                      (try rw [hji18] at c17b0)
                      have hji18w : (IntKind.i64.wrap (x36_2 + 1)) = ji18 := (i64_w _).trans hji18
                      by_cases c19 : 0 ≤ (ji18)
                      · rw [if_pos c19] at H
                        have c19b0 : decide (0 ≤ (ji18)) = true := decide_eq_true c19
                        clear c19
                        obtain ⟨ji20, hji20⟩ : ∃ j_ : Int, (mn t156 ((rd_T50 l0 (ji18)).f0)) = j_ := ⟨_, rfl⟩
                        replace H : (if (ji20) > ((rd_T50 l0 x36_2).f0) then (if x8_2.length < 8796093022208 then (tier_Slices.l0 k2 l0 t156 (x8_2 ++ [(⟨wrap64 ((ji20) - ((rd_T50 l0 x36_2).f0)), (rd_T50 l0 x36_2).f1⟩ : S43)]) l0 (l0.length : Int) ji18) else (none)) else (tier_Slices.l0 k2 l0 t156 x8_2 l0 (l0.length : Int) ji18)) = some r := by first | (rw [hji20] at H; exact H) | (simp only [hji20] at H ⊢; exact H)
                        have hji20_ : (if ((rd_T50 l0 (ji18)).f0) < t156 then ((rd_T50 l0 (ji18)).f0) else t156) = ji20 := hji20
                        by_cases c21 : (ji20) > ((rd_T50 l0 x36_2).f0)
                        · rw [if_pos c21] at H
                          have c21b0 : decide (((rd_T50 l0 x36_2).f0) < (ji20)) = true := decide_eq_true c21
                          clear c21
                          by_cases c22 : x8_2.length < 8796093022208
                          · rw [if_pos c22] at H
                            have LMc22 := Aside0.mk c22
                            clear c22
                            obtain ⟨y165, hy165⟩ : ∃ y_ : List (S43), y_ = (x8_2 ++ [(⟨wrap64 ((ji20) - ((rd_T50 l0 x36_2).f0)), (rd_T50 l0 x36_2).f1⟩ : S43)]) := ⟨_, rfl⟩
                            replace H : (tier_Slices.l0 k2 l0 t156 y165 l0 (l0.length : Int) ji18) = some r := by first | (rw [hy165]; with_reducible exact H) | (have H2_ := (Option.bind_some _ _).symm.trans H; rw [hy165]; with_reducible exact H2_) | (have H2_ := (Option.bind_some _ _).symm.trans H; with_reducible exact H2_) | with_reducible exact H | (rw [hy165]; exact H) | exact H
                            have Ny165 := Aside0.mk hy165
                            clear hy165
                            have H' := Aside0.mk H
                            clear H
                            have p162 : 0 ≤ (x36_2 : Int) := of_decide_eq_true (by first | (with_reducible assumption) | assumption)
                            have q162 : x36_2 < (l0.length : Int) := of_decide_eq_true (by first | (with_reducible assumption) | assumption)
                            obtain ⟨ad162, e162, hx162_0, hx162_1⟩ := at_T50 HR0.out x36_2 p162 q162
                            cases e162
                            replace hx162_0 := (HB.out.cell (World.block_lt_of_cell? w _ hx162_0)).trans hx162_0
                            replace hx162_1 := (HB.out.cell (World.block_lt_of_cell? w _ hx162_1)).trans hx162_1
                            replace p162 := eq_true p162
                            replace q162 := eq_true q162
                            go_wp2_with (first | ((with_reducible refine gate_dst (N := 10) rfl ?_); refine box_event ?hg (N := 10) ?hd (cs := #[.int .i64 0, .int .i64 0]) (t := 50) ?hr ?_; (case hd => rfl); (case hg => rfl); (case hr => first | (go_simp; done) | (go_simp; rfl)); intro gb163 hg w23 hbox hb; have BK163 := Aside0.mk (hbox); have GW163 := ge HB hg; have GE163 := ge HB hg; replace HO_8 := kb HO_8 hb; replace HB := bs HB hb; clear hb hbox hg; obtain ⟨hcz24_0, hcz24_1, hfz24_0, hfz24_1⟩ := cz2 BK163; have p164 : 0 ≤ ((ji18) : Int) := of_decide_eq_true (by first | (with_reducible assumption) | assumption); have q164 : (ji18) < (l0.length : Int) := of_decide_eq_true (by first | (with_reducible assumption) | assumption); obtain ⟨ad164, e164, hx164_0, hx164_1⟩ := at_T50 HR0.out (ji18) p164 q164; obtain rfl : ad162 = ad164 := (by injection e164); have hn164_0 : ad162.block ≠ gb163 := Nat.ne_of_lt (Nat.lt_of_lt_of_le (by have := World.block_lt_of_cell? _ _ hx164_0; first | rwa [add_block] at this | exact this) GW163.out); have hn164_1 : ad162.block ≠ gb163 := Nat.ne_of_lt (Nat.lt_of_lt_of_le (by have := World.block_lt_of_cell? _ _ hx164_0; first | rwa [add_block] at this | exact this) GW163.out); replace hx164_0 := (HB.out.cell (World.block_lt_of_cell? w _ hx164_0)).trans hx164_0; replace hx164_1 := (HB.out.cell (World.block_lt_of_cell? w _ hx164_1)).trans hx164_1; replace hx164_0 := (cell_far (p := ⟨gb163, 0, none⟩) (by first | (rw [add_block]; exact hn164_0) | (show (Addr.add _ _).block ≠ _; rw [add_block]; exact hn164_0) | exact hn164_0) (.int .i64 ((rd_T50 l0 x36_2).f0))).trans hx164_0; replace hx164_1 := (cell_far (p := ⟨gb163, 0, none⟩) (by first | (rw [add_block]; exact hn164_0) | (show (Addr.add _ _).block ≠ _; rw [add_block]; exact hn164_0) | exact hn164_0) (.int .i64 ((rd_T50 l0 x36_2).f0))).trans hx164_1; replace hx164_0 := (cell_far (p := ⟨gb163, 1, none⟩) (by first | (rw [add_block]; exact hn164_1) | (show (Addr.add _ _).block ≠ _; rw [add_block]; exact hn164_1) | exact hn164_1) (.int .i64 ((rd_T50 l0 x36_2).f1))).trans hx164_0; replace hx164_1 := (cell_far (p := ⟨gb163, 1, none⟩) (by first | (rw [add_block]; exact hn164_1) | (show (Addr.add _ _).block ≠ _; rw [add_block]; exact hn164_1) | exact hn164_1) (.int .i64 ((rd_T50 l0 x36_2).f1))).trans hx164_1; clear hn164_0; clear hn164_1; replace p164 := eq_true p164; replace q164 := eq_true q164) | ((with_reducible refine gate_builtin (b := .append) (xs := #[.tmp 59, .tmp 67]) rfl ?_); at_builtin; refine Kd.R_append k43 (w0 := w) w.heap.size rfl (.tmp 59) (.tmp 67) 30 43 (.agg #[(.int .i64 0), (.int .i64 0)]) 16 rfl Try.underlying30 info43 rfl (by decide) (by omega) u8 x8_2 (⟨wrap64 ((ji20) - ((rd_T50 l0 x36_2).f0)), (rd_T50 l0 x36_2).f1⟩ : S43) [.int .i64 (wrap64 ((ji20) - ((rd_T50 l0 x36_2).f0))), .int .i64 ((rd_T50 l0 x36_2).f1)] (fun _ => True) (fun _ => False) rfl (by first | (go_simp; done) | (go_simp; rfl)) ?aP (fun _ hk => hk.elim) ?aF ?aO ?aB ?aS ?aL ?_; (case aP => exact k43_mkM _ _ _ (⟨wrap64 ((ji20) - ((rd_T50 l0 x36_2).f0)), (rd_T50 l0 x36_2).f1⟩ : S43)); (case aB => exact (hq HB)); (case aF => exact (fun _ _ => trivial)); (case aO => exact (by (with_reducible repeat (first | apply Kd.R_alloc | apply Kd.R_drewN | apply Kd.R_drew)); exact Kd.R_mono (Kd.R_far (p := ⟨gb163, 1, none⟩) (Kd.R_far (p := ⟨gb163, 0, none⟩) (Kd.R_types HO_8.out BK163.out (by decide)) (fun _ hk => hk.2) (.int .i64 ((rd_T50 l0 x36_2).f0))) (fun _ hk => hk.2) (.int .i64 ((rd_T50 l0 x36_2).f1))) (fun _ hk => trivial))); (case aS => exact (below_size (hq HB))); (case aL => have := LMc22.out; omega); intro v166 w25 ho hb hg hat; rw [← Ny165.out] at ho; have HO167 := Aside0.mk (ho); replace BK163 := Aside0.mk (blk_grown (g := gb163) (o := .cells #[.int .i64 ((rd_T50 l0 x36_2).f0), .int .i64 ((rd_T50 l0 x36_2).f1)] 50 (0, 0)) (bp BK163) hg (Kd.R_ne HO_8.out BK163.out (by decide))); replace HB := Aside0.mk (hb); clear HO_8; clear ho hb hg hat))
                            go_roundg k2
                            case measure => have := HJ4.out; have := HK2.out; omega
                            case rel => exact ⟨(y165), (ji18), (by first | rfl | (simp; done) | (simp only [← hji18] <;> (first | rfl | simp)) | (simp [*]; done)), H', ⟨by have := HJ4.out; have := HK2.out; omega⟩, ⟨by (with_reducible repeat (first | apply Kd.R_alloc | apply Kd.R_drewN | apply Kd.R_drew)); exact HO167.out⟩, ⟨hq HB⟩⟩
                          · rw [if_neg c22] at H
                            exact absurd H (by simp)
                        · rw [if_neg c21] at H
                          have c21b0 : decide (((rd_T50 l0 x36_2).f0) < (ji20)) = false := decide_eq_false c21
                          clear c21
                          have H' := Aside0.mk H
                          clear H
                          have p162 : 0 ≤ (x36_2 : Int) := of_decide_eq_true (by first | (with_reducible assumption) | assumption)
                          have q162 : x36_2 < (l0.length : Int) := of_decide_eq_true (by first | (with_reducible assumption) | assumption)
                          obtain ⟨ad162, e162, hx162_0, hx162_1⟩ := at_T50 HR0.out x36_2 p162 q162
                          cases e162
                          replace hx162_0 := (HB.out.cell (World.block_lt_of_cell? w _ hx162_0)).trans hx162_0
                          replace hx162_1 := (HB.out.cell (World.block_lt_of_cell? w _ hx162_1)).trans hx162_1
                          replace p162 := eq_true p162
                          replace q162 := eq_true q162
                          go_wp2_with (first | ((with_reducible refine gate_dst (N := 10) rfl ?_); refine box_event ?hg (N := 10) ?hd (cs := #[.int .i64 0, .int .i64 0]) (t := 50) ?hr ?_; (case hd => rfl); (case hg => rfl); (case hr => first | (go_simp; done) | (go_simp; rfl)); intro gb163 hg w26 hbox hb; have BK163 := Aside0.mk (hbox); have GW163 := ge HB hg; have GE163 := ge HB hg; replace HO_8 := kb HO_8 hb; replace HB := bs HB hb; clear hb hbox hg; obtain ⟨hcz27_0, hcz27_1, hfz27_0, hfz27_1⟩ := cz2 BK163; have p164 : 0 ≤ ((ji18) : Int) := of_decide_eq_true (by first | (with_reducible assumption) | assumption); have q164 : (ji18) < (l0.length : Int) := of_decide_eq_true (by first | (with_reducible assumption) | assumption); obtain ⟨ad164, e164, hx164_0, hx164_1⟩ := at_T50 HR0.out (ji18) p164 q164; obtain rfl : ad162 = ad164 := (by injection e164); have hn164_0 : ad162.block ≠ gb163 := Nat.ne_of_lt (Nat.lt_of_lt_of_le (by have := World.block_lt_of_cell? _ _ hx164_0; first | rwa [add_block] at this | exact this) GW163.out); have hn164_1 : ad162.block ≠ gb163 := Nat.ne_of_lt (Nat.lt_of_lt_of_le (by have := World.block_lt_of_cell? _ _ hx164_0; first | rwa [add_block] at this | exact this) GW163.out); replace hx164_0 := (HB.out.cell (World.block_lt_of_cell? w _ hx164_0)).trans hx164_0; replace hx164_1 := (HB.out.cell (World.block_lt_of_cell? w _ hx164_1)).trans hx164_1; replace hx164_0 := (cell_far (p := ⟨gb163, 0, none⟩) (by first | (rw [add_block]; exact hn164_0) | (show (Addr.add _ _).block ≠ _; rw [add_block]; exact hn164_0) | exact hn164_0) (.int .i64 ((rd_T50 l0 x36_2).f0))).trans hx164_0; replace hx164_1 := (cell_far (p := ⟨gb163, 0, none⟩) (by first | (rw [add_block]; exact hn164_0) | (show (Addr.add _ _).block ≠ _; rw [add_block]; exact hn164_0) | exact hn164_0) (.int .i64 ((rd_T50 l0 x36_2).f0))).trans hx164_1; replace hx164_0 := (cell_far (p := ⟨gb163, 1, none⟩) (by first | (rw [add_block]; exact hn164_1) | (show (Addr.add _ _).block ≠ _; rw [add_block]; exact hn164_1) | exact hn164_1) (.int .i64 ((rd_T50 l0 x36_2).f1))).trans hx164_0; replace hx164_1 := (cell_far (p := ⟨gb163, 1, none⟩) (by first | (rw [add_block]; exact hn164_1) | (show (Addr.add _ _).block ≠ _; rw [add_block]; exact hn164_1) | exact hn164_1) (.int .i64 ((rd_T50 l0 x36_2).f1))).trans hx164_1; clear hn164_0; clear hn164_1; replace p164 := eq_true p164; replace q164 := eq_true q164))
                          go_roundg k2
                          case measure => have := HJ4.out; have := HK2.out; omega
                          case rel => exact ⟨(x8_2), (ji18), (by first | rfl | (simp; done) | (simp only [← hji18] <;> (first | rfl | simp)) | (simp [*]; done)), H', ⟨by have := HJ4.out; have := HK2.out; omega⟩, ⟨by (with_reducible repeat (first | apply Kd.R_alloc | apply Kd.R_drewN | apply Kd.R_drew)); exact Kd.R_mono (Kd.R_far (p := ⟨gb163, 1, none⟩) (Kd.R_far (p := ⟨gb163, 0, none⟩) (Kd.R_types HO_8.out BK163.out (by decide)) (fun _ hk => hk.2) (.int .i64 ((rd_T50 l0 x36_2).f0))) (fun _ hk => hk.2) (.int .i64 ((rd_T50 l0 x36_2).f1))) (fun _ hk => trivial)⟩, ⟨hq HB⟩⟩
                      · rw [if_neg c19] at H
                        exact absurd H (by simp)
                    · rw [if_neg c17] at H
                      have c17b0 : decide ((wrap64 (x36_2 + 1)) < (l0.length : Int)) = false := decide_eq_false c17
                      clear c17
                      by_cases c28 : t156 > ((rd_T50 l0 x36_2).f0)
                      · rw [if_pos c28] at H
                        have c28b0 : decide (((rd_T50 l0 x36_2).f0) < t156) = true := decide_eq_true c28
                        clear c28
                        by_cases c29 : x8_2.length < 8796093022208
                        · rw [if_pos c29] at H
                          have LMc29 := Aside0.mk c29
                          clear c29
                          obtain ⟨y168, hy168⟩ : ∃ y_ : List (S43), y_ = (x8_2 ++ [(⟨wrap64 (t156 - ((rd_T50 l0 x36_2).f0)), (rd_T50 l0 x36_2).f1⟩ : S43)]) := ⟨_, rfl⟩
                          replace H : (tier_Slices.l0 k2 l0 t156 y168 l0 (l0.length : Int) (wrap64 (x36_2 + 1))) = some r := by first | (rw [hy168]; with_reducible exact H) | (have H2_ := (Option.bind_some _ _).symm.trans H; rw [hy168]; with_reducible exact H2_) | (have H2_ := (Option.bind_some _ _).symm.trans H; with_reducible exact H2_) | with_reducible exact H | (rw [hy168]; exact H) | exact H
                          have Ny168 := Aside0.mk hy168
                          clear hy168
                          have H' := Aside0.mk H
                          clear H
                          have p162 : 0 ≤ (x36_2 : Int) := of_decide_eq_true (by first | (with_reducible assumption) | assumption)
                          have q162 : x36_2 < (l0.length : Int) := of_decide_eq_true (by first | (with_reducible assumption) | assumption)
                          obtain ⟨ad162, e162, hx162_0, hx162_1⟩ := at_T50 HR0.out x36_2 p162 q162
                          cases e162
                          replace hx162_0 := (HB.out.cell (World.block_lt_of_cell? w _ hx162_0)).trans hx162_0
                          replace hx162_1 := (HB.out.cell (World.block_lt_of_cell? w _ hx162_1)).trans hx162_1
                          replace p162 := eq_true p162
                          replace q162 := eq_true q162
                          go_wp2_with (first | ((with_reducible refine gate_dst (N := 10) rfl ?_); refine box_event ?hg (N := 10) ?hd (cs := #[.int .i64 0, .int .i64 0]) (t := 50) ?hr ?_; (case hd => rfl); (case hg => rfl); (case hr => first | (go_simp; done) | (go_simp; rfl)); intro gb163 hg w30 hbox hb; have BK163 := Aside0.mk (hbox); have GW163 := ge HB hg; have GE163 := ge HB hg; replace HO_8 := kb HO_8 hb; replace HB := bs HB hb; clear hb hbox hg; obtain ⟨hcz31_0, hcz31_1, hfz31_0, hfz31_1⟩ := cz2 BK163) | ((with_reducible refine gate_builtin (b := .append) (xs := #[.tmp 59, .tmp 67]) rfl ?_); at_builtin; refine Kd.R_append k43 (w0 := w) w.heap.size rfl (.tmp 59) (.tmp 67) 30 43 (.agg #[(.int .i64 0), (.int .i64 0)]) 16 rfl Try.underlying30 info43 rfl (by decide) (by omega) u8 x8_2 (⟨wrap64 (t156 - ((rd_T50 l0 x36_2).f0)), (rd_T50 l0 x36_2).f1⟩ : S43) [.int .i64 (wrap64 (t156 - ((rd_T50 l0 x36_2).f0))), .int .i64 ((rd_T50 l0 x36_2).f1)] (fun _ => True) (fun _ => False) rfl (by first | (go_simp; done) | (go_simp; rfl)) ?aP (fun _ hk => hk.elim) ?aF ?aO ?aB ?aS ?aL ?_; (case aP => exact k43_mkM _ _ _ (⟨wrap64 (t156 - ((rd_T50 l0 x36_2).f0)), (rd_T50 l0 x36_2).f1⟩ : S43)); (case aB => exact (hq HB)); (case aF => exact (fun _ _ => trivial)); (case aO => exact (by (with_reducible repeat (first | apply Kd.R_alloc | apply Kd.R_drewN | apply Kd.R_drew)); exact Kd.R_mono (Kd.R_far (p := ⟨gb163, 1, none⟩) (Kd.R_far (p := ⟨gb163, 0, none⟩) (Kd.R_types HO_8.out BK163.out (by decide)) (fun _ hk => hk.2) (.int .i64 ((rd_T50 l0 x36_2).f0))) (fun _ hk => hk.2) (.int .i64 ((rd_T50 l0 x36_2).f1))) (fun _ hk => trivial))); (case aS => exact (below_size (hq HB))); (case aL => have := LMc29.out; omega); intro v169 w32 ho hb hg hat; rw [← Ny168.out] at ho; have HO170 := Aside0.mk (ho); replace BK163 := Aside0.mk (blk_grown (g := gb163) (o := .cells #[.int .i64 ((rd_T50 l0 x36_2).f0), .int .i64 ((rd_T50 l0 x36_2).f1)] 50 (0, 0)) (bp BK163) hg (Kd.R_ne HO_8.out BK163.out (by decide))); replace HB := Aside0.mk (hb); clear HO_8; clear ho hb hg hat))
                          go_roundg k2
                          case measure => have := HJ4.out; have := HK2.out; omega
                          case rel => exact ⟨(y168), (wrap64 (x36_2 + 1)), (by first | rfl | (simp; done) | (simp [*]; done)), H', ⟨by have := HJ4.out; have := HK2.out; omega⟩, ⟨by (with_reducible repeat (first | apply Kd.R_alloc | apply Kd.R_drewN | apply Kd.R_drew)); exact HO170.out⟩, ⟨hq HB⟩⟩
                        · rw [if_neg c29] at H
                          exact absurd H (by simp)
                      · rw [if_neg c28] at H
                        have c28b0 : decide (((rd_T50 l0 x36_2).f0) < t156) = false := decide_eq_false c28
                        clear c28
                        have H' := Aside0.mk H
                        clear H
                        have p162 : 0 ≤ (x36_2 : Int) := of_decide_eq_true (by first | (with_reducible assumption) | assumption)
                        have q162 : x36_2 < (l0.length : Int) := of_decide_eq_true (by first | (with_reducible assumption) | assumption)
                        obtain ⟨ad162, e162, hx162_0, hx162_1⟩ := at_T50 HR0.out x36_2 p162 q162
                        cases e162
                        replace hx162_0 := (HB.out.cell (World.block_lt_of_cell? w _ hx162_0)).trans hx162_0
                        replace hx162_1 := (HB.out.cell (World.block_lt_of_cell? w _ hx162_1)).trans hx162_1
                        replace p162 := eq_true p162
                        replace q162 := eq_true q162
                        go_wp2_with (first | ((with_reducible refine gate_dst (N := 10) rfl ?_); refine box_event ?hg (N := 10) ?hd (cs := #[.int .i64 0, .int .i64 0]) (t := 50) ?hr ?_; (case hd => rfl); (case hg => rfl); (case hr => first | (go_simp; done) | (go_simp; rfl)); intro gb163 hg w33 hbox hb; have BK163 := Aside0.mk (hbox); have GW163 := ge HB hg; have GE163 := ge HB hg; replace HO_8 := kb HO_8 hb; replace HB := bs HB hb; clear hb hbox hg; obtain ⟨hcz34_0, hcz34_1, hfz34_0, hfz34_1⟩ := cz2 BK163))
                        go_roundg k2
                        case measure => have := HJ4.out; have := HK2.out; omega
                        case rel => exact ⟨(x8_2), (wrap64 (x36_2 + 1)), (by first | rfl | (simp; done) | (simp [*]; done)), H', ⟨by have := HJ4.out; have := HK2.out; omega⟩, ⟨by (with_reducible repeat (first | apply Kd.R_alloc | apply Kd.R_drewN | apply Kd.R_drew)); exact Kd.R_mono (Kd.R_far (p := ⟨gb163, 1, none⟩) (Kd.R_far (p := ⟨gb163, 0, none⟩) (Kd.R_types HO_8.out BK163.out (by decide)) (fun _ hk => hk.2) (.int .i64 ((rd_T50 l0 x36_2).f0))) (fun _ hk => hk.2) (.int .i64 ((rd_T50 l0 x36_2).f1))) (fun _ hk => trivial)⟩, ⟨hq HB⟩⟩
                  · rw [if_neg c16] at H
                    exact absurd H (by simp)
                · rw [if_neg c15] at H
                  exact absurd H (by simp)
              · rw [if_neg c14] at H
                have c14b0 : decide (x36_2 < (l0.length : Int)) = false := decide_eq_false c14
                clear c14
                obtain rfl := Option.some.inj H
                go_wp2
                go_ret
                exact ⟨_, by first | rfl | (simp [errW_none, errW_some] <;> rfl) | (simp [*, errW_none, errW_some] <;> rfl), by (with_reducible repeat (first | apply Kd.R_alloc | apply Kd.R_drewN | apply Kd.R_drew)); exact HO_8.out, hq HB⟩
        · replace c13 := Bool.eq_false_iff.mpr c13
          subst c13
          have H1 : ((tier_Rate.f kj4 l0 a2).bind fun t158 => (some (([(⟨t156, t158⟩ : S43)] : List (S43))))) = some r := by rw [if_neg (show ¬ (false = true) by decide)] at H; exact H
          clear H
          have H := H1
          clear H1
          replace H := Option.bind_eq_some_iff.mp H
          obtain ⟨t158, A350, H⟩ := H
          replace H : (some (([(⟨t156, t158⟩ : S43)] : List (S43)))) = some r := H
          have A35 := Aside0.mk A350
          clear A350
          obtain ⟨y159, hy159⟩ : ∃ y_ : List (S43), y_ = (([(⟨t156, t158⟩ : S43)] : List (S43))) := ⟨_, rfl⟩
          replace H : (some y159) = some r := by first | (rw [hy159]; with_reducible exact H) | (have H2_ := (Option.bind_some _ _).symm.trans H; rw [hy159]; with_reducible exact H2_) | (have H2_ := (Option.bind_some _ _).symm.trans H; with_reducible exact H2_) | with_reducible exact H | (rw [hy159]; exact H) | exact H
          have Ny159 := Aside0.mk hy159
          clear hy159
          obtain rfl := Option.some.inj H
          go_wp2_with (first | ((with_reducible refine gate_callee (f := 19) rfl ?_); refine goesL_ (some 31) rfl rfl Try.func19 (by kernel_rfl) rfl #[.slice A0 l0.length c0, .int .i64 a2] rfl zm ?_; (with_reducible refine (tier_Rate.calls kj4 _ _ l0 a2 t158 _ ?side1 ?side2 A35.out).mono ?_); (case side1 => repeat (first | exact (Kd.C_below HR0.out HB.out) | (with_reducible refine Kd.C_alloc ?_ _) | (with_reducible refine Kd.C_drewN ?_ _) | (with_reducible refine Kd.C_drew ?_))); (case side2 => exact HC0.out); rintro e w36 ⟨rfl, hb⟩; refine ⟨_, rfl, ?_⟩; replace HB := bs HB hb; (try clear hb); (try clear hb2); (try clear hk); (try clear hi)) | ((with_reducible refine gate_dst (N := 33) rfl ?_); refine Kd.R_lit k43 _ 43 ?hg (N := 33) ?hd (xs := ([(⟨t156, t158⟩ : S43)] : List (S43))) (inner := [.int .i64 t156, .int .i64 t158]) (ok := fun _ => True) (okp := fun _ => True) ?hr ?hp (fun _ hk => hk) trivial (Below.refl _ _) (Nat.le_refl _) (by simp) ?_; (case hd => rfl); (case hg => rfl); (case hr => first | (go_simp; done) | (go_simp; rfl)); (case hp => exact (Reps.c2 (show Kd.M k43 _ _ _ (⟨t156, t158⟩ : S43) [.int .i64 t156, .int .i64 t158] from (k43_mkM _ _ _ (⟨t156, t158⟩ : S43) )) (Reps.none _ _))); intro v160 w37 ho38 hb hg_ hnew_; clear hg_ hnew_; (first | rw [← Ny159.out] at ho38 | (simp only [Int.reduceToNat] at ho38; rw [← Ny159.out] at ho38)); have HO161 := Aside0.mk (Kd.R_lower ho38 (below_size (hq HB))); replace HB := bs HB hb; clear hb ho38))
          go_ret
          exact ⟨_, by first | rfl | (simp [errW_none, errW_some] <;> rfl) | (simp [*, errW_none, errW_some] <;> rfl), by (with_reducible repeat (first | apply Kd.R_alloc | apply Kd.R_drewN | apply Kd.R_drew)); exact HO161.out, hq HB⟩

-- NOT PRINTED: function 66 (bits_Add64)

/-! ### wide_absolute: function 60 -/
def wide_absolute.f (a0_0 : Int) (a0_1 : Int) : Option (Int × Int) := if a0_0 < 0 then ((wide_negate.f a0_0 a0_1).bind fun bt173 => (some (IntKind.u64.wrap (bt173.1), bt173.2))) else (some (IntKind.u64.wrap (a0_0), a0_1))
set_option maxHeartbeats 8000000 in
set_option maxRecDepth 100000 in
theorem wide_absolute.calls (a0_0 : Int) (a0_1 : Int) (r1 : Int) (r2 : Int) (w : World) (h : wide_absolute.f a0_0 a0_1 = some (r1, r2)) :
    Calls Try.prog 60 #[.agg #[.int .i64 a0_0, .int .u64 a0_1]] w fun e w' => e = .returned (.agg #[.int .u64 r1, .int .u64 r2]) ∧ Below w.heap.size w w' := by
  have hu35 := Try.underlying35
  have hu113 := Try.underlying113
  have HB := Aside0.mk (Below.refl w.heap.size w)
  have H : (if a0_0 < 0 then ((wide_negate.f a0_0 a0_1).bind fun bt173 => (some (IntKind.u64.wrap (bt173.1), bt173.2))) else (some (IntKind.u64.wrap (a0_0), a0_1))) = some (r1, r2) := h
  clear h
  by_cases c2 : a0_0 < 0
  · rw [if_pos c2] at H
    have c2b0 : decide (a0_0 < 0) = true := decide_eq_true c2
    clear c2
    replace H := Option.bind_eq_some_iff.mp H
    obtain ⟨⟨t173, t174⟩, A30, H⟩ := H
    replace H : (some (IntKind.u64.wrap (t173), t174)) = some (r1, r2) := H
    have A3 := Aside0.mk A30
    clear A30
    simp only [Option.some.injEq, Prod.mk.injEq] at H
    obtain ⟨rfl, rfl⟩ := H
    go_enter Try.func60, Try.ntmps60
    go_wp2_with (first | ((with_reducible refine gate_dst (N := 1) rfl ?_); refine box_event ?hg (N := 1) ?hd (cs := #[.int .i64 a0_0, .int .u64 a0_1]) (t := 35) ?hr ?_; (case hd => rfl); (case hg => rfl); (case hr => first | (go_simp; done) | (go_simp; rfl)); intro gb171 hg w4 hbox hb; have BK171 := Aside0.mk (hbox); have GW171 := ge HB hg; have GE171 := ge HB hg; replace HB := bs HB hb; clear hb hbox hg) | ((with_reducible refine gate_dst (N := 2) rfl ?_); refine box_event ?hg (N := 2) ?hd (cs := #[.int .u64 0, .int .u64 0]) (t := 113) ?hr ?_; (case hd => rfl); (case hg => rfl); (case hr => first | (go_simp; done) | (go_simp; rfl)); intro gb172 hg w5 hbox hb; have BK172 := Aside0.mk (hbox); have GW172 := ge HB hg; have GE172 := ge HB hg; have NB171_172 := nl BK171 hg; have NB172_171 := ng NB171_172; replace BK171 := bb BK171 hb; replace HB := bs HB hb; clear hb hbox hg; have hnb6 := NB171_172.out; have hnc6 := NB172_171.out; obtain ⟨hcz7_0, hcz7_1, hfz7_0, hfz7_1⟩ := cz2 BK171) | ((with_reducible refine gate_callee (f := 65) rfl ?_); refine goesL_ (some 7) rfl rfl Try.func65 (by kernel_rfl) rfl #[.agg #[.int .i64 a0_0, .int .u64 a0_1]] rfl zm ?_; (with_reducible refine (wide_negate.calls a0_0 a0_1 t173 t174 _ A3.out).mono ?_); rintro e w8 ⟨rfl, hb⟩; refine ⟨_, rfl, ?_⟩; replace BK171 := bb BK171 hb; replace BK172 := bb BK172 hb; replace HB := bs HB hb; (try clear hb); (try clear hb2); (try clear hk); (try clear hi); obtain ⟨hcz9_0, hcz9_1, hfz9_0, hfz9_1⟩ := cz2 BK171; obtain ⟨hcz10_0, hcz10_1, hfz10_0, hfz10_1⟩ := cz2 BK172))
    refine bodyPost_ret (results_cell_row rfl _ _ gb172 113 #[.int .u64 (IntKind.u64.wrap (t173)), .int .u64 t174] (0, 0) _ rfl (bp BK172) Try.underlying113 rfl (by kernel_rfl)) rfl ?_
    exact ⟨by first | rfl | (simp [errW_none, errW_some] <;> rfl) | (simp [*, errW_none, errW_some] <;> rfl), hq HB⟩
  · rw [if_neg c2] at H
    have c2b0 : decide (a0_0 < 0) = false := decide_eq_false c2
    clear c2
    simp only [Option.some.injEq, Prod.mk.injEq] at H
    obtain ⟨rfl, rfl⟩ := H
    go_enter Try.func60, Try.ntmps60
    go_wp2_with (first | ((with_reducible refine gate_dst (N := 1) rfl ?_); refine box_event ?hg (N := 1) ?hd (cs := #[.int .i64 a0_0, .int .u64 a0_1]) (t := 35) ?hr ?_; (case hd => rfl); (case hg => rfl); (case hr => first | (go_simp; done) | (go_simp; rfl)); intro gb171 hg w11 hbox hb; have BK171 := Aside0.mk (hbox); have GW171 := ge HB hg; have GE171 := ge HB hg; replace HB := bs HB hb; clear hb hbox hg) | ((with_reducible refine gate_dst (N := 2) rfl ?_); refine box_event ?hg (N := 2) ?hd (cs := #[.int .u64 0, .int .u64 0]) (t := 113) ?hr ?_; (case hd => rfl); (case hg => rfl); (case hr => first | (go_simp; done) | (go_simp; rfl)); intro gb172 hg w12 hbox hb; have BK172 := Aside0.mk (hbox); have GW172 := ge HB hg; have GE172 := ge HB hg; have NB171_172 := nl BK171 hg; have NB172_171 := ng NB171_172; replace BK171 := bb BK171 hb; replace HB := bs HB hb; clear hb hbox hg; have hnb13 := NB171_172.out; have hnc13 := NB172_171.out; obtain ⟨hcz14_0, hcz14_1, hfz14_0, hfz14_1⟩ := cz2 BK171; obtain ⟨hcz15_0, hcz15_1, hfz15_0, hfz15_1⟩ := cz2 BK172))
    refine bodyPost_ret (results_cell_row rfl _ _ gb172 113 #[.int .u64 (IntKind.u64.wrap (a0_0)), .int .u64 a0_1] (0, 0) _ rfl (bp BK172) Try.underlying113 rfl (by kernel_rfl)) rfl ?_
    exact ⟨by first | rfl | (simp [errW_none, errW_some] <;> rfl) | (simp [*, errW_none, errW_some] <;> rfl), hq HB⟩

end Go.Proofs.Ytlmabdiodopidaa.P
end
