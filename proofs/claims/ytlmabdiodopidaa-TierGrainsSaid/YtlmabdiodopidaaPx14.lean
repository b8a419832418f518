-- laid by wip/tools/pr.sh (a patched printer; Lean checks it)
import Derived.Test.YtlmabdiodopidaaSq
import Derived.Test.YtlmabdiodopidaaPx0
import Derived.Test.YtlmabdiodopidaaPx6
import Derived.Test.YtlmabdiodopidaaPx7
import Derived.Test.YtlmabdiodopidaaPx8
import Derived.Test.YtlmabdiodopidaaPx12
import Derived.Test.YtlmabdiodopidaaPx13
import Derived.Test.YtlmabdiodopidaaTier
namespace Go.Proofs.Ytlmabdiodopidaa.P
open Go.Proofs.Ytlmabdiodopidaa.G
attribute [local go_sem high] un_not64 un_noti run_add64
open Go.RowKit Go.Proofs.YtlmabdiodopidaaW.PrintWords Go.Proofs.YtlmabdiodopidaaW.PrintLast Go.Proofs.YtlmabdiodopidaaW.PrintMore
attribute [local go_sem] max2_int min2_int max_two min_two max_three min_three max_four min_four   -- for this text's walks alone
set_option linter.unusedVariables false
set_option linter.unusedSimpArgs false

attribute [local go_sem high] eqA35
/-! ### corebanklaw14_liveT: function 18 -/
def corebanklaw14_liveT.f (k : Nat)  : Option (Bool) := (some (([(⟨0, 10000⟩ : S50), (⟨1000, 20000⟩ : S50)] : List (S50)) : List (S50))).bind fun y175 => ((tier_Grains.f k (([(⟨100000, 15000⟩ : S43)] : List (S43))) 4392).bind fun bt181 => ((tier_Slices.f k y175 true (-1500)).bind fun t185 => ((corebankref14_Same.f k t185 (([(⟨1000, 10000⟩ : S43), (⟨500, 20000⟩ : S43)] : List (S43)))).bind fun t191 => (if t191 = true then ((tier_Slices.f k y175 false 1000).bind fun t192 => ((corebankref14_Same.f k t192 (([(⟨1000, 20000⟩ : S43)] : List (S43)))).bind fun t198 => (if t198 = true then ((tier_Rate.f k y175 999).bind fun t199 => (if t199 = 10000 then ((corebankref01_Of.f 6588000000000).bind fun bt200 => (if (bt181.1 == bt200.1 && (bt181.2.1 == bt200.2)) = true then (if bt181.2.2 = 0 then ((tier_Check.f (([(⟨1, 1⟩ : S50)] : List (S50)))).bind fun t205 => (some (t205 == 1))) else (some false)) else (some false))) else (some false))) else (some false)))) else (some false)))))
theorem corebanklaw14_liveT.mono : ∀ k, LeO (corebanklaw14_liveT.f k ) (corebanklaw14_liveT.f (k + 1) ) := by
  intro  k
  unfold corebanklaw14_liveT.f
  repeat' first
      | (with_reducible exact corebankref14_Same.mono _ _ _)
      | (with_reducible exact tier_Grains.mono _ _ _)
      | (with_reducible exact tier_Rate.mono _ _ _)
      | (with_reducible exact tier_Slices.mono _ _ _ _)
      | (with_reducible exact LeO.refl _)
      | (with_reducible exact LeO.none _)
      | (with_reducible refine LeO.ite ?_ ?_)
      | (with_reducible refine LeO.bind ?_ (fun _ => ?_))
      | exact corebankref14_Same.mono _ _ _
      | exact tier_Grains.mono _ _ _
      | exact tier_Rate.mono _ _ _
      | exact tier_Slices.mono _ _ _ _
      | exact LeO.none _
      | refine LeO.ite ?_ ?_
      | refine LeO.bind ?_ (fun _ => ?_)
def corebanklaw14_liveT.T3 : Bool × List (List Nat × List Nat) := (true, [([], []), ([0], [0]), ([], []), ([], []), ([2, 3], [2, 3]), ([1, 4, 1], [1, 4]), ([5, 5], [5]), ([6], [6]), ([7, 6, 6], [6, 7]), ([6], [6]), ([9, 6], [6, 9]), ([8, 10, 8, 6], [6, 8, 10]), ([6, 11], [6, 11]), ([12, 11], [12]), ([13], [13]), ([14, 13, 13], [13, 14]), ([15, 13], [13, 15]), ([13, 16], [13, 16]), ([17, 15], [17]), ([18], [18]), ([18, 18], [18]), ([19, 20, 18], [18, 19, 20]), ([18, 21], [18, 21]), ([22, 20], [22]), ([23], [23]), ([24, 23], [23, 24]), ([23, 25], [23, 25]), ([26, 23], [26]), ([27], [27]), ([28, 27], [27, 28]), ([29, 27, 27], [27, 29]), ([30, 27], [27, 30]), ([27, 31], [27, 31]), ([32, 30, 0, 1, 2, 3, 4, 5, 6, 7, 8, 9, 10, 11, 12, 13, 14, 15, 16, 17, 18, 19, 20, 21, 22, 23, 24, 25, 26, 27, 28, 29, 30, 31, 32], [32])])
def corebanklaw14_liveT.B3 : List Nat := [0, 1, 0, 0, 12, 31, 63, 127, 255, 127, 639, 2047, 4095, 8191, 16383, 32767, 65535, 131071, 262143, 524287, 524287, 2097151, 4194303, 8388607, 16777215, 33554431, 67108863, 134217727, 268435455, 536870911, 1073741823, 2147483647, 4294967295, 8589934591]
theorem corebanklaw14_liveT.tab3 : rtab .any (opsOf Try.f18 3) = corebanklaw14_liveT.T3 := by kernel_rfl
theorem corebanklaw14_liveT.bits3 : waitsOk corebanklaw14_liveT.T3.2 corebanklaw14_liveT.B3 = true := by kernel_rfl
set_option maxHeartbeats 8000000 in
set_option maxRecDepth 100000 in
theorem corebanklaw14_liveT.calls (k : Nat)  (r : Bool) (w : World) (hT : r = true) (h : corebanklaw14_liveT.f k  = some r) :
    Calls Try.prog 18 #[] w fun e w' => e = .returned (.bool r) ∧ Below w.heap.size w w' := by
  have hu50 := Try.underlying50
  have hu43 := Try.underlying43
  have hu35 := Try.underlying35
  have HB := Aside0.mk (Below.refl w.heap.size w)
  have HT := Aside0.mk hT
  clear hT
  have H : ((some (([(⟨0, 10000⟩ : S50), (⟨1000, 20000⟩ : S50)] : List (S50)) : List (S50))).bind fun y175 => ((tier_Grains.f k (([(⟨100000, 15000⟩ : S43)] : List (S43))) 4392).bind fun bt181 => ((tier_Slices.f k y175 true (-1500)).bind fun t185 => ((corebankref14_Same.f k t185 (([(⟨1000, 10000⟩ : S43), (⟨500, 20000⟩ : S43)] : List (S43)))).bind fun t191 => (if t191 = true then ((tier_Slices.f k y175 false 1000).bind fun t192 => ((corebankref14_Same.f k t192 (([(⟨1000, 20000⟩ : S43)] : List (S43)))).bind fun t198 => (if t198 = true then ((tier_Rate.f k y175 999).bind fun t199 => (if t199 = 10000 then ((corebankref01_Of.f 6588000000000).bind fun bt200 => (if (bt181.1 == bt200.1 && (bt181.2.1 == bt200.2)) = true then (if bt181.2.2 = 0 then ((tier_Check.f (([(⟨1, 1⟩ : S50)] : List (S50)))).bind fun t205 => (some (t205 == 1))) else (some false)) else (some false))) else (some false))) else (some false)))) else (some false)))))) = some r := h
  clear h
  obtain ⟨y175, hy175⟩ : ∃ y_ : List (S50), y_ = (([(⟨0, 10000⟩ : S50), (⟨1000, 20000⟩ : S50)] : List (S50))) := ⟨_, rfl⟩
  replace H : ((tier_Grains.f k (([(⟨100000, 15000⟩ : S43)] : List (S43))) 4392).bind fun bt181 => ((tier_Slices.f k y175 true (-1500)).bind fun t185 => ((corebankref14_Same.f k t185 (([(⟨1000, 10000⟩ : S43), (⟨500, 20000⟩ : S43)] : List (S43)))).bind fun t191 => (if t191 = true then ((tier_Slices.f k y175 false 1000).bind fun t192 => ((corebankref14_Same.f k t192 (([(⟨1000, 20000⟩ : S43)] : List (S43)))).bind fun t198 => (if t198 = true then ((tier_Rate.f k y175 999).bind fun t199 => (if t199 = 10000 then ((corebankref01_Of.f 6588000000000).bind fun bt200 => (if (bt181.1 == bt200.1 && (bt181.2.1 == bt200.2)) = true then (if bt181.2.2 = 0 then ((tier_Check.f (([(⟨1, 1⟩ : S50)] : List (S50)))).bind fun t205 => (some (t205 == 1))) else (some false)) else (some false))) else (some false))) else (some false)))) else (some false))))) = some r := by first | (rw [hy175]; with_reducible exact H) | (have H2_ := (Option.bind_some _ _).symm.trans H; rw [hy175]; with_reducible exact H2_) | (have H2_ := (Option.bind_some _ _).symm.trans H; with_reducible exact H2_) | with_reducible exact H | (rw [hy175]; exact H) | exact H
  have Ny175 := Aside0.mk hy175
  clear hy175
  obtain ⟨y178, hy178⟩ : ∃ y_ : List (S43), y_ = (([(⟨100000, 15000⟩ : S43)] : List (S43))) := ⟨_, rfl⟩
  replace H : ((tier_Grains.f k y178 4392).bind fun bt181 => ((tier_Slices.f k y175 true (-1500)).bind fun t185 => ((corebankref14_Same.f k t185 (([(⟨1000, 10000⟩ : S43), (⟨500, 20000⟩ : S43)] : List (S43)))).bind fun t191 => (if t191 = true then ((tier_Slices.f k y175 false 1000).bind fun t192 => ((corebankref14_Same.f k t192 (([(⟨1000, 20000⟩ : S43)] : List (S43)))).bind fun t198 => (if t198 = true then ((tier_Rate.f k y175 999).bind fun t199 => (if t199 = 10000 then ((corebankref01_Of.f 6588000000000).bind fun bt200 => (if (bt181.1 == bt200.1 && (bt181.2.1 == bt200.2)) = true then (if bt181.2.2 = 0 then ((tier_Check.f (([(⟨1, 1⟩ : S50)] : List (S50)))).bind fun t205 => (some (t205 == 1))) else (some false)) else (some false))) else (some false))) else (some false)))) else (some false))))) = some r := by first | (rw [hy178]; with_reducible exact H) | (have H2_ := (Option.bind_some _ _).symm.trans H; rw [hy178]; with_reducible exact H2_) | (have H2_ := (Option.bind_some _ _).symm.trans H; with_reducible exact H2_) | with_reducible exact H | (rw [hy178]; exact H) | exact H
  have Ny178 := Aside0.mk hy178
  clear hy178
  replace H := Option.bind_eq_some_iff.mp H
  obtain ⟨⟨t181, t182, t183⟩, A10, H⟩ := H
  replace H : ((tier_Slices.f k y175 true (-1500)).bind fun t185 => ((corebankref14_Same.f k t185 (([(⟨1000, 10000⟩ : S43), (⟨500, 20000⟩ : S43)] : List (S43)))).bind fun t191 => (if t191 = true then ((tier_Slices.f k y175 false 1000).bind fun t192 => ((corebankref14_Same.f k t192 (([(⟨1000, 20000⟩ : S43)] : List (S43)))).bind fun t198 => (if t198 = true then ((tier_Rate.f k y175 999).bind fun t199 => (if t199 = 10000 then ((corebankref01_Of.f 6588000000000).bind fun bt200 => (if (t181 == bt200.1 && (t182 == bt200.2)) = true then (if t183 = 0 then ((tier_Check.f (([(⟨1, 1⟩ : S50)] : List (S50)))).bind fun t205 => (some (t205 == 1))) else (some false)) else (some false))) else (some false))) else (some false)))) else (some false)))) = some r := H
  have A1 := Aside0.mk A10
  clear A10
  replace H := Option.bind_eq_some_iff.mp H
  obtain ⟨t185, A20, H⟩ := H
  replace H : ((corebankref14_Same.f k t185 (([(⟨1000, 10000⟩ : S43), (⟨500, 20000⟩ : S43)] : List (S43)))).bind fun t191 => (if t191 = true then ((tier_Slices.f k y175 false 1000).bind fun t192 => ((corebankref14_Same.f k t192 (([(⟨1000, 20000⟩ : S43)] : List (S43)))).bind fun t198 => (if t198 = true then ((tier_Rate.f k y175 999).bind fun t199 => (if t199 = 10000 then ((corebankref01_Of.f 6588000000000).bind fun bt200 => (if (t181 == bt200.1 && (t182 == bt200.2)) = true then (if t183 = 0 then ((tier_Check.f (([(⟨1, 1⟩ : S50)] : List (S50)))).bind fun t205 => (some (t205 == 1))) else (some false)) else (some false))) else (some false))) else (some false)))) else (some false))) = some r := H
  have A2 := Aside0.mk A20
  clear A20
  obtain ⟨y188, hy188⟩ : ∃ y_ : List (S43), y_ = (([(⟨1000, 10000⟩ : S43), (⟨500, 20000⟩ : S43)] : List (S43))) := ⟨_, rfl⟩
  replace H : ((corebankref14_Same.f k t185 y188).bind fun t191 => (if t191 = true then ((tier_Slices.f k y175 false 1000).bind fun t192 => ((corebankref14_Same.f k t192 (([(⟨1000, 20000⟩ : S43)] : List (S43)))).bind fun t198 => (if t198 = true then ((tier_Rate.f k y175 999).bind fun t199 => (if t199 = 10000 then ((corebankref01_Of.f 6588000000000).bind fun bt200 => (if (t181 == bt200.1 && (t182 == bt200.2)) = true then (if t183 = 0 then ((tier_Check.f (([(⟨1, 1⟩ : S50)] : List (S50)))).bind fun t205 => (some (t205 == 1))) else (some false)) else (some false))) else (some false))) else (some false)))) else (some false))) = some r := by first | (rw [hy188]; with_reducible exact H) | (have H2_ := (Option.bind_some _ _).symm.trans H; rw [hy188]; with_reducible exact H2_) | (have H2_ := (Option.bind_some _ _).symm.trans H; with_reducible exact H2_) | with_reducible exact H | (rw [hy188]; exact H) | exact H
  have Ny188 := Aside0.mk hy188
  clear hy188
  replace H := Option.bind_eq_some_iff.mp H
  obtain ⟨t191, A30, H⟩ := H
  replace H : (if t191 = true then ((tier_Slices.f k y175 false 1000).bind fun t192 => ((corebankref14_Same.f k t192 (([(⟨1000, 20000⟩ : S43)] : List (S43)))).bind fun t198 => (if t198 = true then ((tier_Rate.f k y175 999).bind fun t199 => (if t199 = 10000 then ((corebankref01_Of.f 6588000000000).bind fun bt200 => (if (t181 == bt200.1 && (t182 == bt200.2)) = true then (if t183 = 0 then ((tier_Check.f (([(⟨1, 1⟩ : S50)] : List (S50)))).bind fun t205 => (some (t205 == 1))) else (some false)) else (some false))) else (some false))) else (some false)))) else (some false)) = some r := H
  have A3 := Aside0.mk A30
  clear A30
  by_cases c4 : t191 = true
  · subst c4
    have H1 : ((tier_Slices.f k y175 false 1000).bind fun t192 => ((corebankref14_Same.f k t192 (([(⟨1000, 20000⟩ : S43)] : List (S43)))).bind fun t198 => (if t198 = true then ((tier_Rate.f k y175 999).bind fun t199 => (if t199 = 10000 then ((corebankref01_Of.f 6588000000000).bind fun bt200 => (if (t181 == bt200.1 && (t182 == bt200.2)) = true then (if t183 = 0 then ((tier_Check.f (([(⟨1, 1⟩ : S50)] : List (S50)))).bind fun t205 => (some (t205 == 1))) else (some false)) else (some false))) else (some false))) else (some false)))) = some r := by rw [if_pos rfl] at H; exact H
    clear H
    have H := H1
    clear H1
    replace H := Option.bind_eq_some_iff.mp H
    obtain ⟨t192, A50, H⟩ := H
    replace H : ((corebankref14_Same.f k t192 (([(⟨1000, 20000⟩ : S43)] : List (S43)))).bind fun t198 => (if t198 = true then ((tier_Rate.f k y175 999).bind fun t199 => (if t199 = 10000 then ((corebankref01_Of.f 6588000000000).bind fun bt200 => (if (t181 == bt200.1 && (t182 == bt200.2)) = true then (if t183 = 0 then ((tier_Check.f (([(⟨1, 1⟩ : S50)] : List (S50)))).bind fun t205 => (some (t205 == 1))) else (some false)) else (some false))) else (some false))) else (some false))) = some r := H
    have A5 := Aside0.mk A50
    clear A50
    obtain ⟨y195, hy195⟩ : ∃ y_ : List (S43), y_ = (([(⟨1000, 20000⟩ : S43)] : List (S43))) := ⟨_, rfl⟩
    replace H : ((corebankref14_Same.f k t192 y195).bind fun t198 => (if t198 = true then ((tier_Rate.f k y175 999).bind fun t199 => (if t199 = 10000 then ((corebankref01_Of.f 6588000000000).bind fun bt200 => (if (t181 == bt200.1 && (t182 == bt200.2)) = true then (if t183 = 0 then ((tier_Check.f (([(⟨1, 1⟩ : S50)] : List (S50)))).bind fun t205 => (some (t205 == 1))) else (some false)) else (some false))) else (some false))) else (some false))) = some r := by first | (rw [hy195]; with_reducible exact H) | (have H2_ := (Option.bind_some _ _).symm.trans H; rw [hy195]; with_reducible exact H2_) | (have H2_ := (Option.bind_some _ _).symm.trans H; with_reducible exact H2_) | with_reducible exact H | (rw [hy195]; exact H) | exact H
    have Ny195 := Aside0.mk hy195
    clear hy195
    replace H := Option.bind_eq_some_iff.mp H
    obtain ⟨t198, A60, H⟩ := H
    replace H : (if t198 = true then ((tier_Rate.f k y175 999).bind fun t199 => (if t199 = 10000 then ((corebankref01_Of.f 6588000000000).bind fun bt200 => (if (t181 == bt200.1 && (t182 == bt200.2)) = true then (if t183 = 0 then ((tier_Check.f (([(⟨1, 1⟩ : S50)] : List (S50)))).bind fun t205 => (some (t205 == 1))) else (some false)) else (some false))) else (some false))) else (some false)) = some r := H
    have A6 := Aside0.mk A60
    clear A60
    by_cases c7 : t198 = true
    · subst c7
      have H1 : ((tier_Rate.f k y175 999).bind fun t199 => (if t199 = 10000 then ((corebankref01_Of.f 6588000000000).bind fun bt200 => (if (t181 == bt200.1 && (t182 == bt200.2)) = true then (if t183 = 0 then ((tier_Check.f (([(⟨1, 1⟩ : S50)] : List (S50)))).bind fun t205 => (some (t205 == 1))) else (some false)) else (some false))) else (some false))) = some r := by rw [if_pos rfl] at H; exact H
      clear H
      have H := H1
      clear H1
      replace H := Option.bind_eq_some_iff.mp H
      obtain ⟨t199, A80, H⟩ := H
      replace H : (if t199 = 10000 then ((corebankref01_Of.f 6588000000000).bind fun bt200 => (if (t181 == bt200.1 && (t182 == bt200.2)) = true then (if t183 = 0 then ((tier_Check.f (([(⟨1, 1⟩ : S50)] : List (S50)))).bind fun t205 => (some (t205 == 1))) else (some false)) else (some false))) else (some false)) = some r := H
      have A8 := Aside0.mk A80
      clear A80
      by_cases c9 : t199 = 10000
      · rw [if_pos c9] at H
        have c9b0 : (t199 == 10000) = true := beq_iff_eq.mpr c9
        have c9b1 : (t199 != 10000) = false := bne_eq_false_iff_eq.mpr c9
        clear c9
        replace H := Option.bind_eq_some_iff.mp H
        obtain ⟨⟨t200, t201⟩, A100, H⟩ := H
        replace H : (if (t181 == t200 && (t182 == t201)) = true then (if t183 = 0 then ((tier_Check.f (([(⟨1, 1⟩ : S50)] : List (S50)))).bind fun t205 => (some (t205 == 1))) else (some false)) else (some false)) = some r := H
        have A10 := Aside0.mk A100
        clear A100
        by_cases c11 : (t181 == t200 && (t182 == t201)) = true
        · rw [if_pos c11] at H
          have c11b0 : (t181 == t200 && (t182 == t201)) = true := c11
          (try (have c11b1 : decide (t181 = t200 && (t182 == t201)) = true := by simpa using c11))
          (try (have c11b2 : (t181 == t200 && (t182 == t201)) = true := by simpa using c11))
          clear c11
          by_cases c12 : t183 = 0
          · rw [if_pos c12] at H
            have c12b0 : (t183 == 0) = true := beq_iff_eq.mpr c12
            have c12b1 : (t183 != 0) = false := bne_eq_false_iff_eq.mpr c12
            clear c12
            obtain ⟨y202, hy202⟩ : ∃ y_ : List (S50), y_ = (([(⟨1, 1⟩ : S50)] : List (S50))) := ⟨_, rfl⟩
            replace H : ((tier_Check.f y202).bind fun t205 => (some (t205 == 1))) = some r := by first | (rw [hy202]; with_reducible exact H) | (have H2_ := (Option.bind_some _ _).symm.trans H; rw [hy202]; with_reducible exact H2_) | (have H2_ := (Option.bind_some _ _).symm.trans H; with_reducible exact H2_) | with_reducible exact H | (rw [hy202]; exact H) | exact H
            have Ny202 := Aside0.mk hy202
            clear hy202
            replace H := Option.bind_eq_some_iff.mp H
            obtain ⟨t205, A130, H⟩ := H
            replace H : (some (t205 == 1)) = some r := H
            have A13 := Aside0.mk A130
            clear A130
            obtain rfl := Option.some.inj H
            go_enter Try.func18, Try.ntmps18
            try go_wp2_with (first | ((with_reducible refine gate_dst (N := 6) rfl ?_); (try (refine gate_guard (by rfl) ?_; dsimp only)); refine Kd.R_lit k50 _ 50 ?hg (N := 6) ?hd (xs := ([(⟨0, 10000⟩ : S50), (⟨1000, 20000⟩ : S50)] : List (S50))) (inner := [.int .i64 0, .int .i64 10000, .int .i64 1000, .int .i64 20000]) (ok := fun _ => True) (okp := fun _ => True) ?hr ?hp (fun _ hk => hk) trivial (Below.refl _ _) (Nat.le_refl _) (by simp) ?_; (case hd => rfl); (case hg => rfl); (case hr => first | (go_simp; done) | (go_simp; rfl)); (case hp => exact (Reps.c2 (show Kd.M k50 _ _ _ (⟨0, 10000⟩ : S50) [.int .i64 0, .int .i64 10000] from (k50_mkM _ _ _ (⟨0, 10000⟩ : S50) )) (Reps.c2 (show Kd.M k50 _ _ _ (⟨1000, 20000⟩ : S50) [.int .i64 1000, .int .i64 20000] from (k50_mkM _ _ _ (⟨1000, 20000⟩ : S50) )) (Reps.none _ _)))); intro v176 w14 ho15 hb hg_ hnew_; clear hg_ hnew_; (first | rw [← Ny175.out] at ho15 | (simp only [Int.reduceToNat] at ho15; rw [← Ny175.out] at ho15)); have HO177 := Aside0.mk (Kd.R_lower ho15 (below_size (hq HB))); replace HB := bs HB hb; clear hb ho15) | ((with_reducible refine gate_dst (N := 9) rfl ?_); (try (refine gate_guard (by rfl) ?_; dsimp only)); refine Kd.R_lit k43 _ 43 ?hg (N := 9) ?hd (xs := ([(⟨100000, 15000⟩ : S43)] : List (S43))) (inner := [.int .i64 100000, .int .i64 15000]) (ok := fun _ => True) (okp := fun _ => True) ?hr ?hp (fun _ hk => hk) trivial (Below.refl _ _) (Nat.le_refl _) (by simp) ?_; (case hd => rfl); (case hg => rfl); (case hr => first | (go_simp; done) | (go_simp; rfl)); (case hp => exact (Reps.c2 (show Kd.M k43 _ _ _ (⟨100000, 15000⟩ : S43) [.int .i64 100000, .int .i64 15000] from (k43_mkM _ _ _ (⟨100000, 15000⟩ : S43) )) (Reps.none _ _))); intro v179 w16 ho17 hb hg_ hnew_; clear hg_ hnew_; (first | rw [← Ny178.out] at ho17 | (simp only [Int.reduceToNat] at ho17; rw [← Ny178.out] at ho17)); have HO180 := Aside0.mk (Kd.R_lower ho17 (below_size (hq HB))); replace HO177 := kb HO177 hb; replace HB := bs HB hb; clear hb ho17; obtain ⟨Ao18, co18, eo18⟩ := Kd.R_slice HO180.out; subst eo18) | ((with_reducible refine gate_callee (f := 24) rfl ?_); refine goesL_ (some 10) rfl rfl Try.func24 (by kernel_rfl) rfl #[.slice Ao18 y178.length co18, .int .i64 4392] rfl zm ?_; (with_reducible refine (tier_Grains.calls k _ _ y178 4392 t181 t182 t183 _ ?side1 ?side2 A1.out).mono ?_); (case side1 => repeat (first | exact (Kd.R_reads' HO180.out).2.2 | (with_reducible refine Kd.C_alloc ?_ _) | (with_reducible refine Kd.C_drewN ?_ _) | (with_reducible refine Kd.C_drew ?_))); (case side2 => exact (Kd.R_reads' HO180.out).2.1); rintro e w19 ⟨rfl, hb⟩; refine ⟨_, rfl, ?_⟩; replace HO177 := kb HO177 hb; replace HO180 := kb HO180 hb; replace HB := bs HB hb; (try clear hb); (try clear hb2); (try clear hk); (try clear hi)) | ((with_reducible refine gate_dst (N := 2) rfl ?_); (try (refine gate_guard (by rfl) ?_; dsimp only)); refine box_event ?hg (N := 2) ?hd (cs := #[.int .i64 0, .int .u64 0]) (t := 35) ?hr ?_; (case hd => rfl); (case hg => rfl); (case hr => first | (go_simp; done) | (go_simp; rfl)); intro gb184 hg w20 hbox hb; have BK184 := Aside0.mk (hbox); have GW184 := ge HB hg; have GE184 := ge HB hg; replace HO177 := kb HO177 hb; replace HO180 := kb HO180 hb; replace HB := bs HB hb; clear hb hbox hg; obtain ⟨hcz21_0, hcz21_1, hfz21_0, hfz21_1⟩ := cz2 BK184; obtain ⟨Ao22, co22, eo22⟩ := Kd.R_slice HO177.out; subst eo22))
            have n0_ : Aside0 (Kd.R k50 50 ((w20.setCell ⟨gb184, 0, none⟩ (.int .i64 t181)).setCell ⟨gb184, 1, none⟩ (.int .u64 t182)) w.heap.size (fun _ => True) (.slice Ao22 y175.length co22) y175) := ⟨by (with_reducible repeat (first | apply Kd.R_alloc | apply Kd.R_drewN | apply Kd.R_drew)); exact Kd.R_mono (Kd.R_far (p := ⟨gb184, 1, none⟩) (Kd.R_far (p := ⟨gb184, 0, none⟩) (Kd.R_types HO177.out BK184.out (by decide)) (fun _ hk => hk.2) (.int .i64 t181)) (fun _ hk => hk.2) (.int .u64 t182)) (fun _ hk => trivial)⟩
            have n1_ : Aside0 (Kd.R k43 43 ((w20.setCell ⟨gb184, 0, none⟩ (.int .i64 t181)).setCell ⟨gb184, 1, none⟩ (.int .u64 t182)) w.heap.size (fun _ => True) (.slice Ao18 y178.length co18) y178) := ⟨by (with_reducible repeat (first | apply Kd.R_alloc | apply Kd.R_drewN | apply Kd.R_drew)); exact Kd.R_mono (Kd.R_far (p := ⟨gb184, 1, none⟩) (Kd.R_far (p := ⟨gb184, 0, none⟩) (Kd.R_types HO180.out BK184.out (by decide)) (fun _ hk => hk.2) (.int .i64 t181)) (fun _ hk => hk.2) (.int .u64 t182)) (fun _ hk => trivial)⟩
            have n2_ : Aside0 (((w20.setCell ⟨gb184, 0, none⟩ (.int .i64 t181)).setCell ⟨gb184, 1, none⟩ (.int .u64 t182)).heap[gb184]? = some (.cells #[.int .i64 t181, .int .u64 t182] 35 (0, 0))) := ⟨bp BK184⟩
            have n3_ : Aside0 (Below w.heap.size w ((w20.setCell ⟨gb184, 0, none⟩ (.int .i64 t181)).setCell ⟨gb184, 1, none⟩ (.int .u64 t182))) := ⟨hq HB⟩
            (try clear HO177)
            (try clear HO180)
            (try clear BK184)
            (try clear HB)
            generalize ((w20.setCell ⟨gb184, 0, none⟩ (.int .i64 t181)).setCell ⟨gb184, 1, none⟩ (.int .u64 t182)) = w23 at n0_ n1_ n2_ n3_ ⊢
            have HO177 := n0_
            have HO180 := n1_
            have BK184 := n2_
            have HB := n3_
            clear n0_ n1_ n2_ n3_
            replace HO177 := Aside0.mk (Kd.R_drew HO177.out)
            replace HO180 := Aside0.mk (Kd.R_drew HO180.out)
            replace BK184 := bd1 BK184
            replace HB := hb1 HB
            refine start_ (n := 34) (S := fun w' => w'.cell? ⟨gb184, 0, none⟩ = some (.int .i64 t181) ∧ w'.cell? ⟨gb184, 1, none⟩ = some (.int .u64 t182)) (ds := []) #[false, false, false, false, false, false, false, false, false, false, false, false, false, false, false, false, false, false, false, false, false, false, false, false, false, false, false, false, false, false, false, false, false, false] (by kernel_rfl) rfl rfl ⟨(blk_cell BK184.out 0).trans rfl, (blk_cell BK184.out 1).trans rfl⟩ (fun hHeld => ?_); refine with_tabW corebanklaw14_liveT.tab3 corebanklaw14_liveT.bits3 (fun HT_ HW_ => ?_)
            generalize w23.drew = w24 at HO177 HO180 BK184 HB hHeld ⊢
            refine pz (i := 0) (N := some 13) #[true, false, false, false, false, false, false, false, false, false, false, false, false, false, false, false, false, false, false, false, false, false, false, false, false, false, false, false, false, false, false, false, false, false] rfl rfl (any_of HT_.out (by kernel_rfl)) (fun _ _ _ h => h) ?_
            refine pz (i := 2) (N := some 15) #[true, false, true, false, false, false, false, false, false, false, false, false, false, false, false, false, false, false, false, false, false, false, false, false, false, false, false, false, false, false, false, false, false, false] rfl rfl (any_of HT_.out (by kernel_rfl)) (fun _ _ _ h => h) ?_
            refine pz (i := 3) (N := some 16) #[true, false, true, true, false, false, false, false, false, false, false, false, false, false, false, false, false, false, false, false, false, false, false, false, false, false, false, false, false, false, false, false, false, false] rfl rfl (any_of HT_.out (by kernel_rfl)) (fun _ _ _ h => h) ?_
            refine join_ (σ := Value × Value × Value × Value) 23 #[true, true, true, true, true, true, true, true, true, true, true, false, false, false, false, false, false, false, false, false, false, false, false, false, false, false, false, false, false, false, false, false, false, false] (fun s_ => [(14, s_.1), (17, s_.2.1), (18, .bool true), (21, s_.2.2.1), (23, s_.2.2.2), (19, .bool true), (20, .slice Ao22 y175.length co22), (22, .agg #[.int .i64 1000, .int .i64 20000])]) (fun s_ w' => (w'.cell? ⟨gb184, 0, none⟩ = some (.int .i64 t181) ∧ w'.cell? ⟨gb184, 1, none⟩ = some (.int .u64 t182)) ∧ (Kd.R k50 50 w' w.heap.size (fun _ => True) (.slice Ao22 y175.length co22) y175) ∧ (Kd.R k43 43 w' w.heap.size (fun k_ => some k_ ≠ (s_.1 : Value).ownBlock ∧ some k_ ≠ (s_.2.1 : Value).ownBlock ∧ some k_ ≠ (s_.2.2.1 : Value).ownBlock ∧ some k_ ≠ (s_.2.2.2 : Value).ownBlock) (.slice Ao18 y178.length co18) y178) ∧ (Kd.R k43 43 w' w.heap.size (fun k_ => some k_ ≠ (.slice Ao18 y178.length co18 : Value).ownBlock ∧ some k_ ≠ (s_.2.1 : Value).ownBlock ∧ some k_ ≠ (s_.2.2.1 : Value).ownBlock ∧ some k_ ≠ (s_.2.2.2 : Value).ownBlock) s_.1 t185) ∧ (Kd.R k43 43 w' w.heap.size (fun k_ => some k_ ≠ (.slice Ao18 y178.length co18 : Value).ownBlock ∧ some k_ ≠ (s_.1 : Value).ownBlock ∧ some k_ ≠ (s_.2.2.1 : Value).ownBlock ∧ some k_ ≠ (s_.2.2.2 : Value).ownBlock) s_.2.1 y188) ∧ (Kd.R k43 43 w' w.heap.size (fun k_ => some k_ ≠ (.slice Ao18 y178.length co18 : Value).ownBlock ∧ some k_ ≠ (s_.1 : Value).ownBlock ∧ some k_ ≠ (s_.2.1 : Value).ownBlock ∧ some k_ ≠ (s_.2.2.2 : Value).ownBlock) s_.2.2.1 t192) ∧ (Kd.R k43 43 w' w.heap.size (fun k_ => some k_ ≠ (.slice Ao18 y178.length co18 : Value).ownBlock ∧ some k_ ≠ (s_.1 : Value).ownBlock ∧ some k_ ≠ (s_.2.1 : Value).ownBlock ∧ some k_ ≠ (s_.2.2.1 : Value).ownBlock) s_.2.2.2 y195) ∧ (w'.heap[gb184]? = some (.cells #[.int .i64 t181, .int .u64 t182] 35 (0, 0))) ∧ (Below w.heap.size w w')) ?_ ?_
            rotate_left
            · intro hCont
              refine two_ (i := 1) (j := 4) (Ni := some 14) (Nj := some 17) #[true, true, true, true, false, false, false, false, false, false, false, false, false, false, false, false, false, false, false, false, false, false, false, false, false, false, false, false, false, false, false, false, false, false] #[true, false, true, true, true, false, false, false, false, false, false, false, false, false, false, false, false, false, false, false, false, false, false, false, false, false, false, false, false, false, false, false, false, false] rfl rfl rfl rfl (two_of HT_.out (by kernel_rfl)) (by decide) (by decide) (fun K hK => ?_) (fun K hK => ?_)
              · skip
                refine goes_ Try.func22 (by kernel_rfl) rfl #[.slice Ao22 y175.length co22, .bool true, .int .i64 (-1500)] (by rfl) rfl rfl zm ?_
                with_reducible refine (tier_Slices.calls k _ _ y175 true (-1500) t185 _ ?side1 ?side2 A2.out).mono ?_
                (case side1 => repeat (first | exact (Kd.R_reads' HO177.out).2.2 | (with_reducible refine Kd.C_alloc ?_ _) | (with_reducible refine Kd.C_drewN ?_ _) | (with_reducible refine Kd.C_drew ?_)))
                (case side2 => exact (Kd.R_reads' HO177.out).2.1)
                rintro e w25 ⟨v186, rfl, ho0, hb⟩
                refine ⟨_, rfl, ?_⟩
                have HO187 := Aside0.mk (Kd.R_lower (Kd.R_new' ho0 (Kd.R_lt (kq HO180))) (below_size (hq HB)))
                replace HO177 := kb HO177 hb
                replace HO180 := Aside0.mk (Kd.R_elder' (kq HO180) (Kd.R_base ho0) hb)
                replace BK184 := bb BK184 hb
                replace HB := bs HB hb
                (try clear hb)
                (try clear hb2)
                (try clear hk)
                (try clear hi)
                (try clear ho0)
                refine hK.out _ _ ⟨(blk_cell BK184.out 0).trans rfl, (blk_cell BK184.out 1).trans rfl⟩ (fun hHeld => ?_)
                clear hK K
                refine norm_ (a' := ?_) ?_ ?_
                rotate_left
                · show Act.put _ (some 14) _ = _
                  simp only [Act.put, List.setIfInBounds_toArray, List.set_cons_zero, List.set_cons_succ, i64_w, i32_w]
                  rfl
                refine one_ (i := 4) (N := some 17) #[true, true, true, true, true, false, false, false, false, false, false, false, false, false, false, false, false, false, false, false, false, false, false, false, false, false, false, false, false, false, false, false, false, false] rfl rfl (one_of HT_.out (by kernel_rfl)) (by decide) (fun K hK => ?_)
                refine Kd.R_lit_step k43 _ 43 ?hg (N := 17) ?hd (xs := ([(⟨1000, 10000⟩ : S43), (⟨500, 20000⟩ : S43)] : List (S43))) (inner := [.int .i64 1000, .int .i64 10000, .int .i64 500, .int .i64 20000]) (ok := fun _ => True) (okp := fun _ => True) ?hr ?hp (fun _ hk => hk) trivial (Below.refl _ _) (Nat.le_refl _) (by simp) ?_; (case hd => rfl); (case hg => rfl); (case hr => first | (go_simp; done) | (go_simp; rfl)); (case hp => exact (Reps.c2 (show Kd.M k43 _ _ _ (⟨1000, 10000⟩ : S43) [.int .i64 1000, .int .i64 10000] from (k43_mkM _ _ _ (⟨1000, 10000⟩ : S43) )) (Reps.c2 (show Kd.M k43 _ _ _ (⟨500, 20000⟩ : S43) [.int .i64 500, .int .i64 20000] from (k43_mkM _ _ _ (⟨500, 20000⟩ : S43) )) (Reps.none _ _))))
                intro v189 w26 ho27 hb hg_ hnew_
                clear hg_ hnew_
                (first | rw [← Ny188.out] at ho27 | (simp only [Int.reduceToNat] at ho27; rw [← Ny188.out] at ho27))
                have HO190 := Aside0.mk (Kd.R_lower (Kd.R_new' (Kd.R_new' ho27 (Kd.R_lt (kq HO180))) (Kd.R_lt (kq HO187))) (below_size (hq HB)))
                replace HO177 := kb HO177 hb
                replace HO180 := Aside0.mk (Kd.R_elder' (kq HO180) (Kd.R_base ho27) hb)
                replace HO187 := Aside0.mk (Kd.R_elder' (kq HO187) (Kd.R_base ho27) hb)
                replace BK184 := bb BK184 hb
                replace HB := bs HB hb
                clear hb ho27
                obtain ⟨Ao28, co28, eo28⟩ := Kd.R_slice HO187.out
                (first | subst eo28 | (injection eo28 with f1_ f2_ f3_; have f4_ := f1_.symm; have f5_ := f3_.symm; clear f1_ f2_ f3_; subst f4_; subst f5_))
                obtain ⟨Ao29, co29, eo29⟩ := Kd.R_slice HO190.out
                (first | subst eo29 | (injection eo29 with f1_ f2_ f3_; have f4_ := f1_.symm; have f5_ := f3_.symm; clear f1_ f2_ f3_; subst f4_; subst f5_))
                refine hK.out _ _ ⟨(blk_cell BK184.out 0).trans rfl, (blk_cell BK184.out 1).trans rfl⟩ (fun hHeld => ?_)
                clear hK K
                refine norm_ (a' := ?_) ?_ ?_
                rotate_left
                · show Act.put _ (some 17) _ = _
                  simp only [Act.put, List.setIfInBounds_toArray, List.set_cons_zero, List.set_cons_succ, i64_w, i32_w]
                  rfl
                refine one_ (i := 5) (N := some 18) #[true, true, true, true, true, true, false, false, false, false, false, false, false, false, false, false, false, false, false, false, false, false, false, false, false, false, false, false, false, false, false, false, false, false] rfl rfl (one_of HT_.out (by kernel_rfl)) (by decide) (fun K hK => ?_)
                refine goes_ Try.func21 (by kernel_rfl) rfl #[.slice Ao28 t185.length co28, .slice Ao29 y188.length co29] (by rfl) rfl rfl zm ?_
                with_reducible refine (corebankref14_Same.calls k _ _ t185 _ _ y188 true _ ?side1 ?side2 ?side3 ?side4 A3.out).mono ?_
                (case side1 => repeat (first | exact (Kd.R_reads' HO187.out).2.2 | (with_reducible refine Kd.C_alloc ?_ _) | (with_reducible refine Kd.C_drewN ?_ _) | (with_reducible refine Kd.C_drew ?_)))
                (case side2 => exact (Kd.R_reads' HO187.out).2.1)
                (case side3 => repeat (first | exact (Kd.R_reads' HO190.out).2.2 | (with_reducible refine Kd.C_alloc ?_ _) | (with_reducible refine Kd.C_drewN ?_ _) | (with_reducible refine Kd.C_drew ?_)))
                (case side4 => exact (Kd.R_reads' HO190.out).2.1)
                rintro e w' ⟨rfl, ⟨nd, rfl⟩⟩
                refine ⟨_, rfl, ?_⟩
                refine hK.out _ _ ⟨(blk_cell BK184.out 0).trans rfl, (blk_cell BK184.out 1).trans rfl⟩ (fun hHeld => ?_)
                clear hK K
                refine norm_ (a' := ?_) ?_ ?_
                rotate_left
                · show Act.put _ (some 18) _ = _
                  simp only [Act.put, List.setIfInBounds_toArray, List.set_cons_zero, List.set_cons_succ, i64_w, i32_w]
                  rfl
                refine pz (i := 6) (N := some 19) #[true, true, true, true, true, true, true, false, false, false, false, false, false, false, false, false, false, false, false, false, false, false, false, false, false, false, false, false, false, false, false, false, false, false] rfl rfl (any_of HT_.out (by kernel_rfl)) (fun _ _ _ h => h) ?_
                refine pz (i := 7) (N := some 20) #[true, true, true, true, true, true, true, true, false, false, false, false, false, false, false, false, false, false, false, false, false, false, false, false, false, false, false, false, false, false, false, false, false, false] rfl rfl (any_of HT_.out (by kernel_rfl)) (fun _ _ _ h => h) ?_
                refine pz (i := 9) (N := some 22) #[true, true, true, true, true, true, true, true, false, true, false, false, false, false, false, false, false, false, false, false, false, false, false, false, false, false, false, false, false, false, false, false, false, false] rfl rfl (any_of HT_.out (by kernel_rfl)) (fun _ _ _ h => h) ?_
                refine two_ (i := 8) (j := 10) (Ni := some 21) (Nj := some 23) #[true, true, true, true, true, true, true, true, true, true, false, false, false, false, false, false, false, false, false, false, false, false, false, false, false, false, false, false, false, false, false, false, false, false] #[true, true, true, true, true, true, true, true, false, true, true, false, false, false, false, false, false, false, false, false, false, false, false, false, false, false, false, false, false, false, false, false, false, false] rfl rfl rfl rfl (two_of HT_.out (by kernel_rfl)) (by decide) (by decide) (fun K hK => ?_) (fun K hK => ?_)
                · skip
                  refine goes_ Try.func22 (by kernel_rfl) rfl #[.slice Ao22 y175.length co22, .bool false, .int .i64 1000] (by rfl) rfl rfl zm ?_
                  with_reducible refine (tier_Slices.calls k _ _ y175 false 1000 t192 _ ?side1 ?side2 A5.out).mono ?_
                  (case side1 => repeat (first | exact (Kd.R_reads' HO177.out).2.2 | (with_reducible refine Kd.C_alloc ?_ _) | (with_reducible refine Kd.C_drewN ?_ _) | (with_reducible refine Kd.C_drew ?_)))
                  (case side2 => exact (Kd.R_reads' HO177.out).2.1)
                  rintro e w30 ⟨v193, rfl, ho0, hb⟩
                  refine ⟨_, rfl, ?_⟩
                  have HO194 := Aside0.mk (Kd.R_lower (Kd.R_new' (Kd.R_new' (Kd.R_new' ho0 (Kd.R_lt (kq HO180))) (Kd.R_lt (kq HO187))) (Kd.R_lt (kq HO190))) (below_size (hq HB)))
                  replace HO177 := kb HO177 hb
                  replace HO180 := Aside0.mk (Kd.R_elder' (kq HO180) (Kd.R_base ho0) hb)
                  replace HO187 := Aside0.mk (Kd.R_elder' (kq HO187) (Kd.R_base ho0) hb)
                  replace HO190 := Aside0.mk (Kd.R_elder' (kq HO190) (Kd.R_base ho0) hb)
                  replace BK184 := bb BK184 hb
                  replace HB := bs HB hb
                  (try clear hb)
                  (try clear hb2)
                  (try clear hk)
                  (try clear hi)
                  (try clear ho0)
                  refine hK.out _ _ ⟨(blk_cell BK184.out 0).trans rfl, (blk_cell BK184.out 1).trans rfl⟩ (fun hHeld => ?_)
                  clear hK K
                  refine norm_ (a' := ?_) ?_ ?_
                  rotate_left
                  · show Act.put _ (some 21) _ = _
                    simp only [Act.put, List.setIfInBounds_toArray, List.set_cons_zero, List.set_cons_succ, i64_w, i32_w]
                    rfl
                  refine one_ (i := 10) (N := some 23) #[true, true, true, true, true, true, true, true, true, true, true, false, false, false, false, false, false, false, false, false, false, false, false, false, false, false, false, false, false, false, false, false, false, false] rfl rfl (one_of HT_.out (by kernel_rfl)) (by decide) (fun K hK => ?_)
                  refine Kd.R_lit_step k43 _ 43 ?hg (N := 23) ?hd (xs := ([(⟨1000, 20000⟩ : S43)] : List (S43))) (inner := [.int .i64 1000, .int .i64 20000]) (ok := fun _ => True) (okp := fun _ => True) ?hr ?hp (fun _ hk => hk) trivial (Below.refl _ _) (Nat.le_refl _) (by simp) ?_; (case hd => rfl); (case hg => rfl); (case hr => first | (go_simp; done) | (go_simp; rfl)); (case hp => exact (Reps.c2 (show Kd.M k43 _ _ _ (⟨1000, 20000⟩ : S43) [.int .i64 1000, .int .i64 20000] from (k43_mkM _ _ _ (⟨1000, 20000⟩ : S43) )) (Reps.none _ _)))
                  intro v196 w31 ho32 hb hg_ hnew_
                  clear hg_ hnew_
                  (first | rw [← Ny195.out] at ho32 | (simp only [Int.reduceToNat] at ho32; rw [← Ny195.out] at ho32))
                  have HO197 := Aside0.mk (Kd.R_lower (Kd.R_new' (Kd.R_new' (Kd.R_new' (Kd.R_new' ho32 (Kd.R_lt (kq HO180))) (Kd.R_lt (kq HO187))) (Kd.R_lt (kq HO190))) (Kd.R_lt (kq HO194))) (below_size (hq HB)))
                  replace HO177 := kb HO177 hb
                  replace HO180 := Aside0.mk (Kd.R_elder' (kq HO180) (Kd.R_base ho32) hb)
                  replace HO187 := Aside0.mk (Kd.R_elder' (kq HO187) (Kd.R_base ho32) hb)
                  replace HO190 := Aside0.mk (Kd.R_elder' (kq HO190) (Kd.R_base ho32) hb)
                  replace HO194 := Aside0.mk (Kd.R_elder' (kq HO194) (Kd.R_base ho32) hb)
                  replace BK184 := bb BK184 hb
                  replace HB := bs HB hb
                  clear hb ho32
                  refine hK.out _ _ ⟨(blk_cell BK184.out 0).trans rfl, (blk_cell BK184.out 1).trans rfl⟩ (fun hHeld => ?_)
                  clear hK K
                  refine norm_ (a' := ?_) ?_ ?_
                  rotate_left
                  · show Act.put _ (some 23) _ = _
                    simp only [Act.put, List.setIfInBounds_toArray, List.set_cons_zero, List.set_cons_succ, i64_w, i32_w]
                    rfl
                  exact norm_ (by simp only [putAll, Act.put, List.setIfInBounds_toArray, List.set_cons_zero, List.set_cons_succ]) (hCont (.slice Ao28 t185.length co28, .slice Ao29 y188.length co29, v193, v196) _ ⟨hHeld, (kq HO177), (by (with_reducible repeat (first | apply Kd.R_alloc | apply Kd.R_drewN | apply Kd.R_drew)); exact Kd.R_mono HO180.out (fun _ hk => ⟨hk.1.1.1.2, ⟨hk.1.1.2, ⟨hk.1.2, hk.2⟩⟩⟩)), (by (with_reducible repeat (first | apply Kd.R_alloc | apply Kd.R_drewN | apply Kd.R_drew)); exact Kd.R_mono HO187.out (fun _ hk => ⟨hk.1.1.1.2, ⟨hk.1.1.2, ⟨hk.1.2, hk.2⟩⟩⟩)), (by (with_reducible repeat (first | apply Kd.R_alloc | apply Kd.R_drewN | apply Kd.R_drew)); exact Kd.R_mono HO190.out (fun _ hk => ⟨hk.1.1.1.2, ⟨hk.1.1.2, ⟨hk.1.2, hk.2⟩⟩⟩)), (by (with_reducible repeat (first | apply Kd.R_alloc | apply Kd.R_drewN | apply Kd.R_drew)); exact Kd.R_mono HO194.out (fun _ hk => ⟨hk.1.1.1.2, ⟨hk.1.1.2, ⟨hk.1.2, hk.2⟩⟩⟩)), (by (with_reducible repeat (first | apply Kd.R_alloc | apply Kd.R_drewN | apply Kd.R_drew)); exact Kd.R_mono HO197.out (fun _ hk => ⟨hk.1.1.1.2, ⟨hk.1.1.2, ⟨hk.1.2, hk.2⟩⟩⟩)), (bq BK184), (hq HB)⟩)
                · skip
                  refine Kd.R_lit_step k43 _ 43 ?hg (N := 23) ?hd (xs := ([(⟨1000, 20000⟩ : S43)] : List (S43))) (inner := [.int .i64 1000, .int .i64 20000]) (ok := fun _ => True) (okp := fun _ => True) ?hr ?hp (fun _ hk => hk) trivial (Below.refl _ _) (Nat.le_refl _) (by simp) ?_; (case hd => rfl); (case hg => rfl); (case hr => first | (go_simp; done) | (go_simp; rfl)); (case hp => exact (Reps.c2 (show Kd.M k43 _ _ _ (⟨1000, 20000⟩ : S43) [.int .i64 1000, .int .i64 20000] from (k43_mkM _ _ _ (⟨1000, 20000⟩ : S43) )) (Reps.none _ _)))
                  intro v196 w30 ho31 hb hg_ hnew_
                  clear hg_ hnew_
                  (first | rw [← Ny195.out] at ho31 | (simp only [Int.reduceToNat] at ho31; rw [← Ny195.out] at ho31))
                  have HO197 := Aside0.mk (Kd.R_lower (Kd.R_new' (Kd.R_new' (Kd.R_new' ho31 (Kd.R_lt (kq HO180))) (Kd.R_lt (kq HO187))) (Kd.R_lt (kq HO190))) (below_size (hq HB)))
                  replace HO177 := kb HO177 hb
                  replace HO180 := Aside0.mk (Kd.R_elder' (kq HO180) (Kd.R_base ho31) hb)
                  replace HO187 := Aside0.mk (Kd.R_elder' (kq HO187) (Kd.R_base ho31) hb)
                  replace HO190 := Aside0.mk (Kd.R_elder' (kq HO190) (Kd.R_base ho31) hb)
                  replace BK184 := bb BK184 hb
                  replace HB := bs HB hb
                  clear hb ho31
                  refine hK.out _ _ ⟨(blk_cell BK184.out 0).trans rfl, (blk_cell BK184.out 1).trans rfl⟩ (fun hHeld => ?_)
                  clear hK K
                  refine norm_ (a' := ?_) ?_ ?_
                  rotate_left
                  · show Act.put _ (some 23) _ = _
                    simp only [Act.put, List.setIfInBounds_toArray, List.set_cons_zero, List.set_cons_succ, i64_w, i32_w]
                    rfl
                  refine one_ (i := 8) (N := some 21) #[true, true, true, true, true, true, true, true, true, true, true, false, false, false, false, false, false, false, false, false, false, false, false, false, false, false, false, false, false, false, false, false, false, false] rfl rfl (one_of HT_.out (by kernel_rfl)) (by decide) (fun K hK => ?_)
                  refine goes_ Try.func22 (by kernel_rfl) rfl #[.slice Ao22 y175.length co22, .bool false, .int .i64 1000] (by rfl) rfl rfl zm ?_
                  with_reducible refine (tier_Slices.calls k _ _ y175 false 1000 t192 _ ?side1 ?side2 A5.out).mono ?_
                  (case side1 => repeat (first | exact (Kd.R_reads' HO177.out).2.2 | (with_reducible refine Kd.C_alloc ?_ _) | (with_reducible refine Kd.C_drewN ?_ _) | (with_reducible refine Kd.C_drew ?_)))
                  (case side2 => exact (Kd.R_reads' HO177.out).2.1)
                  rintro e w32 ⟨v193, rfl, ho0, hb⟩
                  refine ⟨_, rfl, ?_⟩
                  have HO194 := Aside0.mk (Kd.R_lower (Kd.R_new' (Kd.R_new' (Kd.R_new' (Kd.R_new' ho0 (Kd.R_lt (kq HO180))) (Kd.R_lt (kq HO187))) (Kd.R_lt (kq HO190))) (Kd.R_lt (kq HO197))) (below_size (hq HB)))
                  replace HO177 := kb HO177 hb
                  replace HO180 := Aside0.mk (Kd.R_elder' (kq HO180) (Kd.R_base ho0) hb)
                  replace HO187 := Aside0.mk (Kd.R_elder' (kq HO187) (Kd.R_base ho0) hb)
                  replace HO190 := Aside0.mk (Kd.R_elder' (kq HO190) (Kd.R_base ho0) hb)
                  replace HO197 := Aside0.mk (Kd.R_elder' (kq HO197) (Kd.R_base ho0) hb)
                  replace BK184 := bb BK184 hb
                  replace HB := bs HB hb
                  (try clear hb)
                  (try clear hb2)
                  (try clear hk)
                  (try clear hi)
                  (try clear ho0)
                  refine hK.out _ _ ⟨(blk_cell BK184.out 0).trans rfl, (blk_cell BK184.out 1).trans rfl⟩ (fun hHeld => ?_)
                  clear hK K
                  refine norm_ (a' := ?_) ?_ ?_
                  rotate_left
                  · show Act.put _ (some 21) _ = _
                    simp only [Act.put, List.setIfInBounds_toArray, List.set_cons_zero, List.set_cons_succ, i64_w, i32_w]
                    rfl
                  exact norm_ (by simp only [putAll, Act.put, List.setIfInBounds_toArray, List.set_cons_zero, List.set_cons_succ]) (hCont (.slice Ao28 t185.length co28, .slice Ao29 y188.length co29, v193, v196) _ ⟨hHeld, (kq HO177), (by (with_reducible repeat (first | apply Kd.R_alloc | apply Kd.R_drewN | apply Kd.R_drew)); exact Kd.R_mono HO180.out (fun _ hk => ⟨hk.1.1.1.2, ⟨hk.1.1.2, ⟨hk.2, hk.1.2⟩⟩⟩)), (by (with_reducible repeat (first | apply Kd.R_alloc | apply Kd.R_drewN | apply Kd.R_drew)); exact Kd.R_mono HO187.out (fun _ hk => ⟨hk.1.1.1.2, ⟨hk.1.1.2, ⟨hk.2, hk.1.2⟩⟩⟩)), (by (with_reducible repeat (first | apply Kd.R_alloc | apply Kd.R_drewN | apply Kd.R_drew)); exact Kd.R_mono HO190.out (fun _ hk => ⟨hk.1.1.1.2, ⟨hk.1.1.2, ⟨hk.2, hk.1.2⟩⟩⟩)), (by (with_reducible repeat (first | apply Kd.R_alloc | apply Kd.R_drewN | apply Kd.R_drew)); exact Kd.R_mono HO194.out (fun _ hk => ⟨hk.1.1.1.2, ⟨hk.1.1.2, ⟨hk.1.2, hk.2⟩⟩⟩)), (by (with_reducible repeat (first | apply Kd.R_alloc | apply Kd.R_drewN | apply Kd.R_drew)); exact Kd.R_mono HO197.out (fun _ hk => ⟨hk.1.1.1.2, ⟨hk.1.1.2, ⟨hk.1.2, hk.2⟩⟩⟩)), (bq BK184), (hq HB)⟩)
              · skip
                refine Kd.R_lit_step k43 _ 43 ?hg (N := 17) ?hd (xs := ([(⟨1000, 10000⟩ : S43), (⟨500, 20000⟩ : S43)] : List (S43))) (inner := [.int .i64 1000, .int .i64 10000, .int .i64 500, .int .i64 20000]) (ok := fun _ => True) (okp := fun _ => True) ?hr ?hp (fun _ hk => hk) trivial (Below.refl _ _) (Nat.le_refl _) (by simp) ?_; (case hd => rfl); (case hg => rfl); (case hr => first | (go_simp; done) | (go_simp; rfl)); (case hp => exact (Reps.c2 (show Kd.M k43 _ _ _ (⟨1000, 10000⟩ : S43) [.int .i64 1000, .int .i64 10000] from (k43_mkM _ _ _ (⟨1000, 10000⟩ : S43) )) (Reps.c2 (show Kd.M k43 _ _ _ (⟨500, 20000⟩ : S43) [.int .i64 500, .int .i64 20000] from (k43_mkM _ _ _ (⟨500, 20000⟩ : S43) )) (Reps.none _ _))))
                intro v189 w25 ho26 hb hg_ hnew_
                clear hg_ hnew_
                (first | rw [← Ny188.out] at ho26 | (simp only [Int.reduceToNat] at ho26; rw [← Ny188.out] at ho26))
                have HO190 := Aside0.mk (Kd.R_lower (Kd.R_new' ho26 (Kd.R_lt (kq HO180))) (below_size (hq HB)))
                replace HO177 := kb HO177 hb
                replace HO180 := Aside0.mk (Kd.R_elder' (kq HO180) (Kd.R_base ho26) hb)
                replace BK184 := bb BK184 hb
                replace HB := bs HB hb
                clear hb ho26
                refine hK.out _ _ ⟨(blk_cell BK184.out 0).trans rfl, (blk_cell BK184.out 1).trans rfl⟩ (fun hHeld => ?_)
                clear hK K
                refine norm_ (a' := ?_) ?_ ?_
                rotate_left
                · show Act.put _ (some 17) _ = _
                  simp only [Act.put, List.setIfInBounds_toArray, List.set_cons_zero, List.set_cons_succ, i64_w, i32_w]
                  rfl
                refine one_ (i := 1) (N := some 14) #[true, true, true, true, true, false, false, false, false, false, false, false, false, false, false, false, false, false, false, false, false, false, false, false, false, false, false, false, false, false, false, false, false, false] rfl rfl (one_of HT_.out (by kernel_rfl)) (by decide) (fun K hK => ?_)
                refine goes_ Try.func22 (by kernel_rfl) rfl #[.slice Ao22 y175.length co22, .bool true, .int .i64 (-1500)] (by rfl) rfl rfl zm ?_
                with_reducible refine (tier_Slices.calls k _ _ y175 true (-1500) t185 _ ?side1 ?side2 A2.out).mono ?_
                (case side1 => repeat (first | exact (Kd.R_reads' HO177.out).2.2 | (with_reducible refine Kd.C_alloc ?_ _) | (with_reducible refine Kd.C_drewN ?_ _) | (with_reducible refine Kd.C_drew ?_)))
                (case side2 => exact (Kd.R_reads' HO177.out).2.1)
                rintro e w27 ⟨v186, rfl, ho0, hb⟩
                refine ⟨_, rfl, ?_⟩
                have HO187 := Aside0.mk (Kd.R_lower (Kd.R_new' (Kd.R_new' ho0 (Kd.R_lt (kq HO180))) (Kd.R_lt (kq HO190))) (below_size (hq HB)))
                replace HO177 := kb HO177 hb
                replace HO180 := Aside0.mk (Kd.R_elder' (kq HO180) (Kd.R_base ho0) hb)
                replace HO190 := Aside0.mk (Kd.R_elder' (kq HO190) (Kd.R_base ho0) hb)
                replace BK184 := bb BK184 hb
                replace HB := bs HB hb
                (try clear hb)
                (try clear hb2)
                (try clear hk)
                (try clear hi)
                (try clear ho0)
                obtain ⟨Ao28, co28, eo28⟩ := Kd.R_slice HO187.out
                (first | subst eo28 | (injection eo28 with f1_ f2_ f3_; have f4_ := f1_.symm; have f5_ := f3_.symm; clear f1_ f2_ f3_; subst f4_; subst f5_))
                obtain ⟨Ao29, co29, eo29⟩ := Kd.R_slice HO190.out
                (first | subst eo29 | (injection eo29 with f1_ f2_ f3_; have f4_ := f1_.symm; have f5_ := f3_.symm; clear f1_ f2_ f3_; subst f4_; subst f5_))
                refine hK.out _ _ ⟨(blk_cell BK184.out 0).trans rfl, (blk_cell BK184.out 1).trans rfl⟩ (fun hHeld => ?_)
                clear hK K
                refine norm_ (a' := ?_) ?_ ?_
                rotate_left
                · show Act.put _ (some 14) _ = _
                  simp only [Act.put, List.setIfInBounds_toArray, List.set_cons_zero, List.set_cons_succ, i64_w, i32_w]
                  rfl
                refine one_ (i := 5) (N := some 18) #[true, true, true, true, true, true, false, false, false, false, false, false, false, false, false, false, false, false, false, false, false, false, false, false, false, false, false, false, false, false, false, false, false, false] rfl rfl (one_of HT_.out (by kernel_rfl)) (by decide) (fun K hK => ?_)
                refine goes_ Try.func21 (by kernel_rfl) rfl #[.slice Ao28 t185.length co28, .slice Ao29 y188.length co29] (by rfl) rfl rfl zm ?_
                with_reducible refine (corebankref14_Same.calls k _ _ t185 _ _ y188 true _ ?side1 ?side2 ?side3 ?side4 A3.out).mono ?_
                (case side1 => repeat (first | exact (Kd.R_reads' HO187.out).2.2 | (with_reducible refine Kd.C_alloc ?_ _) | (with_reducible refine Kd.C_drewN ?_ _) | (with_reducible refine Kd.C_drew ?_)))
                (case side2 => exact (Kd.R_reads' HO187.out).2.1)
                (case side3 => repeat (first | exact (Kd.R_reads' HO190.out).2.2 | (with_reducible refine Kd.C_alloc ?_ _) | (with_reducible refine Kd.C_drewN ?_ _) | (with_reducible refine Kd.C_drew ?_)))
                (case side4 => exact (Kd.R_reads' HO190.out).2.1)
                rintro e w' ⟨rfl, ⟨nd, rfl⟩⟩
                refine ⟨_, rfl, ?_⟩
                refine hK.out _ _ ⟨(blk_cell BK184.out 0).trans rfl, (blk_cell BK184.out 1).trans rfl⟩ (fun hHeld => ?_)
                clear hK K
                refine norm_ (a' := ?_) ?_ ?_
                rotate_left
                · show Act.put _ (some 18) _ = _
                  simp only [Act.put, List.setIfInBounds_toArray, List.set_cons_zero, List.set_cons_succ, i64_w, i32_w]
                  rfl
                refine pz (i := 6) (N := some 19) #[true, true, true, true, true, true, true, false, false, false, false, false, false, false, false, false, false, false, false, false, false, false, false, false, false, false, false, false, false, false, false, false, false, false] rfl rfl (any_of HT_.out (by kernel_rfl)) (fun _ _ _ h => h) ?_
                refine pz (i := 7) (N := some 20) #[true, true, true, true, true, true, true, true, false, false, false, false, false, false, false, false, false, false, false, false, false, false, false, false, false, false, false, false, false, false, false, false, false, false] rfl rfl (any_of HT_.out (by kernel_rfl)) (fun _ _ _ h => h) ?_
                refine pz (i := 9) (N := some 22) #[true, true, true, true, true, true, true, true, false, true, false, false, false, false, false, false, false, false, false, false, false, false, false, false, false, false, false, false, false, false, false, false, false, false] rfl rfl (any_of HT_.out (by kernel_rfl)) (fun _ _ _ h => h) ?_
                refine two_ (i := 8) (j := 10) (Ni := some 21) (Nj := some 23) #[true, true, true, true, true, true, true, true, true, true, false, false, false, false, false, false, false, false, false, false, false, false, false, false, false, false, false, false, false, false, false, false, false, false] #[true, true, true, true, true, true, true, true, false, true, true, false, false, false, false, false, false, false, false, false, false, false, false, false, false, false, false, false, false, false, false, false, false, false] rfl rfl rfl rfl (two_of HT_.out (by kernel_rfl)) (by decide) (by decide) (fun K hK => ?_) (fun K hK => ?_)
                · skip
                  refine goes_ Try.func22 (by kernel_rfl) rfl #[.slice Ao22 y175.length co22, .bool false, .int .i64 1000] (by rfl) rfl rfl zm ?_
                  with_reducible refine (tier_Slices.calls k _ _ y175 false 1000 t192 _ ?side1 ?side2 A5.out).mono ?_
                  (case side1 => repeat (first | exact (Kd.R_reads' HO177.out).2.2 | (with_reducible refine Kd.C_alloc ?_ _) | (with_reducible refine Kd.C_drewN ?_ _) | (with_reducible refine Kd.C_drew ?_)))
                  (case side2 => exact (Kd.R_reads' HO177.out).2.1)
                  rintro e w30 ⟨v193, rfl, ho0, hb⟩
                  refine ⟨_, rfl, ?_⟩
                  have HO194 := Aside0.mk (Kd.R_lower (Kd.R_new' (Kd.R_new' (Kd.R_new' ho0 (Kd.R_lt (kq HO180))) (Kd.R_lt (kq HO190))) (Kd.R_lt (kq HO187))) (below_size (hq HB)))
                  replace HO177 := kb HO177 hb
                  replace HO180 := Aside0.mk (Kd.R_elder' (kq HO180) (Kd.R_base ho0) hb)
                  replace HO190 := Aside0.mk (Kd.R_elder' (kq HO190) (Kd.R_base ho0) hb)
                  replace HO187 := Aside0.mk (Kd.R_elder' (kq HO187) (Kd.R_base ho0) hb)
                  replace BK184 := bb BK184 hb
                  replace HB := bs HB hb
                  (try clear hb)
                  (try clear hb2)
                  (try clear hk)
                  (try clear hi)
                  (try clear ho0)
                  refine hK.out _ _ ⟨(blk_cell BK184.out 0).trans rfl, (blk_cell BK184.out 1).trans rfl⟩ (fun hHeld => ?_)
                  clear hK K
                  refine norm_ (a' := ?_) ?_ ?_
                  rotate_left
                  · show Act.put _ (some 21) _ = _
                    simp only [Act.put, List.setIfInBounds_toArray, List.set_cons_zero, List.set_cons_succ, i64_w, i32_w]
                    rfl
                  refine one_ (i := 10) (N := some 23) #[true, true, true, true, true, true, true, true, true, true, true, false, false, false, false, false, false, false, false, false, false, false, false, false, false, false, false, false, false, false, false, false, false, false] rfl rfl (one_of HT_.out (by kernel_rfl)) (by decide) (fun K hK => ?_)
                  refine Kd.R_lit_step k43 _ 43 ?hg (N := 23) ?hd (xs := ([(⟨1000, 20000⟩ : S43)] : List (S43))) (inner := [.int .i64 1000, .int .i64 20000]) (ok := fun _ => True) (okp := fun _ => True) ?hr ?hp (fun _ hk => hk) trivial (Below.refl _ _) (Nat.le_refl _) (by simp) ?_; (case hd => rfl); (case hg => rfl); (case hr => first | (go_simp; done) | (go_simp; rfl)); (case hp => exact (Reps.c2 (show Kd.M k43 _ _ _ (⟨1000, 20000⟩ : S43) [.int .i64 1000, .int .i64 20000] from (k43_mkM _ _ _ (⟨1000, 20000⟩ : S43) )) (Reps.none _ _)))
                  intro v196 w31 ho32 hb hg_ hnew_
                  clear hg_ hnew_
                  (first | rw [← Ny195.out] at ho32 | (simp only [Int.reduceToNat] at ho32; rw [← Ny195.out] at ho32))
                  have HO197 := Aside0.mk (Kd.R_lower (Kd.R_new' (Kd.R_new' (Kd.R_new' (Kd.R_new' ho32 (Kd.R_lt (kq HO180))) (Kd.R_lt (kq HO190))) (Kd.R_lt (kq HO187))) (Kd.R_lt (kq HO194))) (below_size (hq HB)))
                  replace HO177 := kb HO177 hb
                  replace HO180 := Aside0.mk (Kd.R_elder' (kq HO180) (Kd.R_base ho32) hb)
                  replace HO190 := Aside0.mk (Kd.R_elder' (kq HO190) (Kd.R_base ho32) hb)
                  replace HO187 := Aside0.mk (Kd.R_elder' (kq HO187) (Kd.R_base ho32) hb)
                  replace HO194 := Aside0.mk (Kd.R_elder' (kq HO194) (Kd.R_base ho32) hb)
                  replace BK184 := bb BK184 hb
                  replace HB := bs HB hb
                  clear hb ho32
                  refine hK.out _ _ ⟨(blk_cell BK184.out 0).trans rfl, (blk_cell BK184.out 1).trans rfl⟩ (fun hHeld => ?_)
                  clear hK K
                  refine norm_ (a' := ?_) ?_ ?_
                  rotate_left
                  · show Act.put _ (some 23) _ = _
                    simp only [Act.put, List.setIfInBounds_toArray, List.set_cons_zero, List.set_cons_succ, i64_w, i32_w]
                    rfl
                  exact norm_ (by simp only [putAll, Act.put, List.setIfInBounds_toArray, List.set_cons_zero, List.set_cons_succ]) (hCont (.slice Ao28 t185.length co28, .slice Ao29 y188.length co29, v193, v196) _ ⟨hHeld, (kq HO177), (by (with_reducible repeat (first | apply Kd.R_alloc | apply Kd.R_drewN | apply Kd.R_drew)); exact Kd.R_mono HO180.out (fun _ hk => ⟨hk.1.1.2, ⟨hk.1.1.1.2, ⟨hk.1.2, hk.2⟩⟩⟩)), (by (with_reducible repeat (first | apply Kd.R_alloc | apply Kd.R_drewN | apply Kd.R_drew)); exact Kd.R_mono HO187.out (fun _ hk => ⟨hk.1.1.1.2, ⟨hk.1.1.2, ⟨hk.1.2, hk.2⟩⟩⟩)), (by (with_reducible repeat (first | apply Kd.R_alloc | apply Kd.R_drewN | apply Kd.R_drew)); exact Kd.R_mono HO190.out (fun _ hk => ⟨hk.1.1.1.2, ⟨hk.1.1.2, ⟨hk.1.2, hk.2⟩⟩⟩)), (by (with_reducible repeat (first | apply Kd.R_alloc | apply Kd.R_drewN | apply Kd.R_drew)); exact Kd.R_mono HO194.out (fun _ hk => ⟨hk.1.1.1.2, ⟨hk.1.2, ⟨hk.1.1.2, hk.2⟩⟩⟩)), (by (with_reducible repeat (first | apply Kd.R_alloc | apply Kd.R_drewN | apply Kd.R_drew)); exact Kd.R_mono HO197.out (fun _ hk => ⟨hk.1.1.1.2, ⟨hk.1.2, ⟨hk.1.1.2, hk.2⟩⟩⟩)), (bq BK184), (hq HB)⟩)
                · skip
                  refine Kd.R_lit_step k43 _ 43 ?hg (N := 23) ?hd (xs := ([(⟨1000, 20000⟩ : S43)] : List (S43))) (inner := [.int .i64 1000, .int .i64 20000]) (ok := fun _ => True) (okp := fun _ => True) ?hr ?hp (fun _ hk => hk) trivial (Below.refl _ _) (Nat.le_refl _) (by simp) ?_; (case hd => rfl); (case hg => rfl); (case hr => first | (go_simp; done) | (go_simp; rfl)); (case hp => exact (Reps.c2 (show Kd.M k43 _ _ _ (⟨1000, 20000⟩ : S43) [.int .i64 1000, .int .i64 20000] from (k43_mkM _ _ _ (⟨1000, 20000⟩ : S43) )) (Reps.none _ _)))
                  intro v196 w30 ho31 hb hg_ hnew_
                  clear hg_ hnew_
                  (first | rw [← Ny195.out] at ho31 | (simp only [Int.reduceToNat] at ho31; rw [← Ny195.out] at ho31))
                  have HO197 := Aside0.mk (Kd.R_lower (Kd.R_new' (Kd.R_new' (Kd.R_new' ho31 (Kd.R_lt (kq HO180))) (Kd.R_lt (kq HO190))) (Kd.R_lt (kq HO187))) (below_size (hq HB)))
                  replace HO177 := kb HO177 hb
                  replace HO180 := Aside0.mk (Kd.R_elder' (kq HO180) (Kd.R_base ho31) hb)
                  replace HO190 := Aside0.mk (Kd.R_elder' (kq HO190) (Kd.R_base ho31) hb)
                  replace HO187 := Aside0.mk (Kd.R_elder' (kq HO187) (Kd.R_base ho31) hb)
                  replace BK184 := bb BK184 hb
                  replace HB := bs HB hb
                  clear hb ho31
                  refine hK.out _ _ ⟨(blk_cell BK184.out 0).trans rfl, (blk_cell BK184.out 1).trans rfl⟩ (fun hHeld => ?_)
                  clear hK K
                  refine norm_ (a' := ?_) ?_ ?_
                  rotate_left
                  · show Act.put _ (some 23) _ = _
                    simp only [Act.put, List.setIfInBounds_toArray, List.set_cons_zero, List.set_cons_succ, i64_w, i32_w]
                    rfl
                  refine one_ (i := 8) (N := some 21) #[true, true, true, true, true, true, true, true, true, true, true, false, false, false, false, false, false, false, false, false, false, false, false, false, false, false, false, false, false, false, false, false, false, false] rfl rfl (one_of HT_.out (by kernel_rfl)) (by decide) (fun K hK => ?_)
                  refine goes_ Try.func22 (by kernel_rfl) rfl #[.slice Ao22 y175.length co22, .bool false, .int .i64 1000] (by rfl) rfl rfl zm ?_
                  with_reducible refine (tier_Slices.calls k _ _ y175 false 1000 t192 _ ?side1 ?side2 A5.out).mono ?_
                  (case side1 => repeat (first | exact (Kd.R_reads' HO177.out).2.2 | (with_reducible refine Kd.C_alloc ?_ _) | (with_reducible refine Kd.C_drewN ?_ _) | (with_reducible refine Kd.C_drew ?_)))
                  (case side2 => exact (Kd.R_reads' HO177.out).2.1)
                  rintro e w32 ⟨v193, rfl, ho0, hb⟩
                  refine ⟨_, rfl, ?_⟩
                  have HO194 := Aside0.mk (Kd.R_lower (Kd.R_new' (Kd.R_new' (Kd.R_new' (Kd.R_new' ho0 (Kd.R_lt (kq HO180))) (Kd.R_lt (kq HO190))) (Kd.R_lt (kq HO187))) (Kd.R_lt (kq HO197))) (below_size (hq HB)))
                  replace HO177 := kb HO177 hb
                  replace HO180 := Aside0.mk (Kd.R_elder' (kq HO180) (Kd.R_base ho0) hb)
                  replace HO190 := Aside0.mk (Kd.R_elder' (kq HO190) (Kd.R_base ho0) hb)
                  replace HO187 := Aside0.mk (Kd.R_elder' (kq HO187) (Kd.R_base ho0) hb)
                  replace HO197 := Aside0.mk (Kd.R_elder' (kq HO197) (Kd.R_base ho0) hb)
                  replace BK184 := bb BK184 hb
                  replace HB := bs HB hb
                  (try clear hb)
                  (try clear hb2)
                  (try clear hk)
                  (try clear hi)
                  (try clear ho0)
                  refine hK.out _ _ ⟨(blk_cell BK184.out 0).trans rfl, (blk_cell BK184.out 1).trans rfl⟩ (fun hHeld => ?_)
                  clear hK K
                  refine norm_ (a' := ?_) ?_ ?_
                  rotate_left
                  · show Act.put _ (some 21) _ = _
                    simp only [Act.put, List.setIfInBounds_toArray, List.set_cons_zero, List.set_cons_succ, i64_w, i32_w]
                    rfl
                  exact norm_ (by simp only [putAll, Act.put, List.setIfInBounds_toArray, List.set_cons_zero, List.set_cons_succ]) (hCont (.slice Ao28 t185.length co28, .slice Ao29 y188.length co29, v193, v196) _ ⟨hHeld, (kq HO177), (by (with_reducible repeat (first | apply Kd.R_alloc | apply Kd.R_drewN | apply Kd.R_drew)); exact Kd.R_mono HO180.out (fun _ hk => ⟨hk.1.1.2, ⟨hk.1.1.1.2, ⟨hk.2, hk.1.2⟩⟩⟩)), (by (with_reducible repeat (first | apply Kd.R_alloc | apply Kd.R_drewN | apply Kd.R_drew)); exact Kd.R_mono HO187.out (fun _ hk => ⟨hk.1.1.1.2, ⟨hk.1.1.2, ⟨hk.2, hk.1.2⟩⟩⟩)), (by (with_reducible repeat (first | apply Kd.R_alloc | apply Kd.R_drewN | apply Kd.R_drew)); exact Kd.R_mono HO190.out (fun _ hk => ⟨hk.1.1.1.2, ⟨hk.1.1.2, ⟨hk.2, hk.1.2⟩⟩⟩)), (by (with_reducible repeat (first | apply Kd.R_alloc | apply Kd.R_drewN | apply Kd.R_drew)); exact Kd.R_mono HO194.out (fun _ hk => ⟨hk.1.1.1.2, ⟨hk.1.2, ⟨hk.1.1.2, hk.2⟩⟩⟩)), (by (with_reducible repeat (first | apply Kd.R_alloc | apply Kd.R_drewN | apply Kd.R_drew)); exact Kd.R_mono HO197.out (fun _ hk => ⟨hk.1.1.1.2, ⟨hk.1.2, ⟨hk.1.1.2, hk.2⟩⟩⟩)), (bq BK184), (hq HB)⟩)
            rintro ⟨v186, v189, v193, v196⟩ w33 ⟨hS_, h0_, h1_, h2_, h3_, h4_, h5_, h6_, h7_⟩
            have HO187 : Aside0 (Kd.R k43 43 w33 w.heap.size (fun k_ => some k_ ≠ (.slice Ao18 y178.length co18 : Value).ownBlock ∧ some k_ ≠ (v189 : Value).ownBlock ∧ some k_ ≠ (v193 : Value).ownBlock ∧ some k_ ≠ (v196 : Value).ownBlock) v186 t185) := ⟨h2_⟩
            have HO190 : Aside0 (Kd.R k43 43 w33 w.heap.size (fun k_ => some k_ ≠ (.slice Ao18 y178.length co18 : Value).ownBlock ∧ some k_ ≠ (v186 : Value).ownBlock ∧ some k_ ≠ (v193 : Value).ownBlock ∧ some k_ ≠ (v196 : Value).ownBlock) v189 y188) := ⟨h3_⟩
            have HO194 : Aside0 (Kd.R k43 43 w33 w.heap.size (fun k_ => some k_ ≠ (.slice Ao18 y178.length co18 : Value).ownBlock ∧ some k_ ≠ (v186 : Value).ownBlock ∧ some k_ ≠ (v189 : Value).ownBlock ∧ some k_ ≠ (v196 : Value).ownBlock) v193 t192) := ⟨h4_⟩
            have HO197 : Aside0 (Kd.R k43 43 w33 w.heap.size (fun k_ => some k_ ≠ (.slice Ao18 y178.length co18 : Value).ownBlock ∧ some k_ ≠ (v186 : Value).ownBlock ∧ some k_ ≠ (v189 : Value).ownBlock ∧ some k_ ≠ (v193 : Value).ownBlock) v196 y195) := ⟨h5_⟩
            replace HO177 : Aside0 (Kd.R k50 50 w33 w.heap.size (fun _ => True) (.slice Ao22 y175.length co22) y175) := ⟨h0_⟩
            replace HO180 : Aside0 (Kd.R k43 43 w33 w.heap.size (fun k_ => some k_ ≠ (v186 : Value).ownBlock ∧ some k_ ≠ (v189 : Value).ownBlock ∧ some k_ ≠ (v193 : Value).ownBlock ∧ some k_ ≠ (v196 : Value).ownBlock) (.slice Ao18 y178.length co18) y178) := ⟨h1_⟩
            replace BK184 : Aside0 (w33.heap[gb184]? = some (.cells #[.int .i64 t181, .int .u64 t182] 35 (0, 0))) := ⟨h6_⟩
            replace HB : Aside0 (Below w.heap.size w w33) := ⟨h7_⟩
            clear h0_ h1_ h2_ h3_ h4_ h5_ h6_ h7_
            have hHeld : w33.cell? ⟨gb184, 0, none⟩ = some (.int .i64 t181) ∧ w33.cell? ⟨gb184, 1, none⟩ = some (.int .u64 t182) := hS_
            obtain ⟨Ao34, co34, eo34⟩ := Kd.R_slice HO194.out
            (first | subst eo34 | (injection eo34 with f1_ f2_ f3_; have f4_ := f1_.symm; have f5_ := f3_.symm; clear f1_ f2_ f3_; subst f4_; subst f5_))
            obtain ⟨Ao35, co35, eo35⟩ := Kd.R_slice HO197.out
            (first | subst eo35 | (injection eo35 with f1_ f2_ f3_; have f4_ := f1_.symm; have f5_ := f3_.symm; clear f1_ f2_ f3_; subst f4_; subst f5_))
            refine norm_ (a' := ?_) ?_ ?_
            rotate_left
            · simp only [putAll, Act.put, List.setIfInBounds_toArray, List.set_cons_zero, List.set_cons_succ]
              rfl
            refine one_ (i := 11) (N := some 24) #[true, true, true, true, true, true, true, true, true, true, true, true, false, false, false, false, false, false, false, false, false, false, false, false, false, false, false, false, false, false, false, false, false, false] rfl rfl (one_of HT_.out (by kernel_rfl)) (by decide) (fun K hK => ?_)
            refine goes_ Try.func21 (by kernel_rfl) rfl #[.slice Ao34 t192.length co34, .slice Ao35 y195.length co35] (by rfl) rfl rfl zm ?_
            with_reducible refine (corebankref14_Same.calls k _ _ t192 _ _ y195 true _ ?side1 ?side2 ?side3 ?side4 A6.out).mono ?_
            (case side1 => repeat (first | exact (Kd.R_reads' HO194.out).2.2 | (with_reducible refine Kd.C_alloc ?_ _) | (with_reducible refine Kd.C_drewN ?_ _) | (with_reducible refine Kd.C_drew ?_)))
            (case side2 => exact (Kd.R_reads' HO194.out).2.1)
            (case side3 => repeat (first | exact (Kd.R_reads' HO197.out).2.2 | (with_reducible refine Kd.C_alloc ?_ _) | (with_reducible refine Kd.C_drewN ?_ _) | (with_reducible refine Kd.C_drew ?_)))
            (case side4 => exact (Kd.R_reads' HO197.out).2.1)
            rintro e w' ⟨rfl, ⟨nd, rfl⟩⟩
            refine ⟨_, rfl, ?_⟩
            refine hK.out _ _ ⟨(blk_cell BK184.out 0).trans rfl, (blk_cell BK184.out 1).trans rfl⟩ (fun hHeld => ?_)
            clear hK K
            refine norm_ (a' := ?_) ?_ ?_
            rotate_left
            · show Act.put _ (some 24) _ = _
              simp only [Act.put, List.setIfInBounds_toArray, List.set_cons_zero, List.set_cons_succ, i64_w, i32_w]
              rfl
            refine pz (i := 12) (N := some 25) #[true, true, true, true, true, true, true, true, true, true, true, true, true, false, false, false, false, false, false, false, false, false, false, false, false, false, false, false, false, false, false, false, false, false] rfl rfl (any_of HT_.out (by kernel_rfl)) (fun _ _ _ h => h) ?_
            refine pz (i := 13) (N := some 26) #[true, true, true, true, true, true, true, true, true, true, true, true, true, true, false, false, false, false, false, false, false, false, false, false, false, false, false, false, false, false, false, false, false, false] rfl rfl (any_of HT_.out (by kernel_rfl)) (fun _ _ _ h => h) ?_
            refine pz (i := 14) (N := some 27) #[true, true, true, true, true, true, true, true, true, true, true, true, true, true, true, false, false, false, false, false, false, false, false, false, false, false, false, false, false, false, false, false, false, false] rfl rfl (any_of HT_.out (by kernel_rfl)) (fun _ _ _ h => h) ?_
            refine one_ (i := 15) (N := some 28) #[true, true, true, true, true, true, true, true, true, true, true, true, true, true, true, true, false, false, false, false, false, false, false, false, false, false, false, false, false, false, false, false, false, false] rfl rfl (one_of HT_.out (by kernel_rfl)) (by decide) (fun K hK => ?_)
            refine goes_ Try.func19 (by kernel_rfl) rfl #[.slice Ao22 y175.length co22, .int .i64 999] (by rfl) rfl rfl zm ?_
            with_reducible refine (tier_Rate.calls k _ _ y175 999 t199 _ ?side1 ?side2 A8.out).mono ?_
            (case side1 => repeat (first | exact (Kd.R_reads' HO177.out).2.2 | (with_reducible refine Kd.C_alloc ?_ _) | (with_reducible refine Kd.C_drewN ?_ _) | (with_reducible refine Kd.C_drew ?_)))
            (case side2 => exact (Kd.R_reads' HO177.out).2.1)
            rintro e w36 ⟨rfl, hb⟩
            refine ⟨_, rfl, ?_⟩
            replace HO177 := kb HO177 hb
            replace HO180 := kb HO180 hb
            replace HO187 := kb HO187 hb
            replace HO190 := kb HO190 hb
            replace HO194 := kb HO194 hb
            replace HO197 := kb HO197 hb
            replace BK184 := bb BK184 hb
            replace HB := bs HB hb
            (try clear hb)
            (try clear hb2)
            (try clear hk)
            (try clear hi)
            refine hK.out _ _ ⟨(blk_cell BK184.out 0).trans rfl, (blk_cell BK184.out 1).trans rfl⟩ (fun hHeld => ?_)
            clear hK K
            refine norm_ (a' := ?_) ?_ ?_
            rotate_left
            · show Act.put _ (some 28) _ = _
              simp only [Act.put, List.setIfInBounds_toArray, List.set_cons_zero, List.set_cons_succ, i64_w, i32_w]
              rfl
            refine pz (i := 16) (N := some 29) #[true, true, true, true, true, true, true, true, true, true, true, true, true, true, true, true, true, false, false, false, false, false, false, false, false, false, false, false, false, false, false, false, false, false] rfl rfl (any_of HT_.out (by kernel_rfl)) (fun _ _ _ h => h) ?_
            refine pz (i := 17) (N := some 30) #[true, true, true, true, true, true, true, true, true, true, true, true, true, true, true, true, true, true, false, false, false, false, false, false, false, false, false, false, false, false, false, false, false, false] rfl rfl (any_of HT_.out (by kernel_rfl)) (fun _ _ _ h => h) ?_
            refine pz (i := 18) (N := some 31) #[true, true, true, true, true, true, true, true, true, true, true, true, true, true, true, true, true, true, true, false, false, false, false, false, false, false, false, false, false, false, false, false, false, false] rfl rfl (any_of HT_.out (by kernel_rfl)) (fun _ _ _ h => h) ?_
            refine tz2 (i := 19) (N := some 32) #[true, true, true, true, true, true, true, true, true, true, true, true, true, true, true, true, true, true, true, true, false, false, false, false, false, false, false, false, false, false, false, false, false, false] rfl rfl (take_ofW HT_.out HW_.out (by kernel_rfl)) (fun _ _ _ h => h) hHeld ?_
            refine one_ (i := 20) (N := some 33) #[true, true, true, true, true, true, true, true, true, true, true, true, true, true, true, true, true, true, true, true, true, false, false, false, false, false, false, false, false, false, false, false, false, false] rfl rfl (one_of HT_.out (by kernel_rfl)) (by decide) (fun K hK => ?_)
            refine goes_ Try.func41 (by kernel_rfl) rfl #[.int .i64 6588000000000] (by rfl) rfl rfl zm ?_
            with_reducible refine (corebankref01_Of.calls 6588000000000 t200 t201 _ A10.out).mono ?_
            rintro e w37 ⟨rfl, hb⟩
            refine ⟨_, rfl, ?_⟩
            replace HO177 := kb HO177 hb
            replace HO180 := kb HO180 hb
            replace HO187 := kb HO187 hb
            replace HO190 := kb HO190 hb
            replace HO194 := kb HO194 hb
            replace HO197 := kb HO197 hb
            replace BK184 := bb BK184 hb
            replace HB := bs HB hb
            (try clear hb)
            (try clear hb2)
            (try clear hk)
            (try clear hi)
            refine hK.out _ _ ⟨(blk_cell BK184.out 0).trans rfl, (blk_cell BK184.out 1).trans rfl⟩ (fun hHeld => ?_)
            clear hK K
            refine norm_ (a' := ?_) ?_ ?_
            rotate_left
            · show Act.put _ (some 33) _ = _
              simp only [Act.put, List.setIfInBounds_toArray, List.set_cons_zero, List.set_cons_succ, i64_w, i32_w]
              rfl
            refine pz (i := 21) (N := some 34) #[true, true, true, true, true, true, true, true, true, true, true, true, true, true, true, true, true, true, true, true, true, true, false, false, false, false, false, false, false, false, false, false, false, false] rfl rfl (any_of HT_.out (by kernel_rfl)) (fun _ _ _ h => h) ?_
            refine pz (i := 22) (N := some 35) #[true, true, true, true, true, true, true, true, true, true, true, true, true, true, true, true, true, true, true, true, true, true, true, false, false, false, false, false, false, false, false, false, false, false] rfl rfl (any_of HT_.out (by kernel_rfl)) (fun _ _ _ h => h) ?_
            refine pz (i := 23) (N := some 36) #[true, true, true, true, true, true, true, true, true, true, true, true, true, true, true, true, true, true, true, true, true, true, true, true, false, false, false, false, false, false, false, false, false, false] rfl rfl (any_of HT_.out (by kernel_rfl)) (fun _ _ _ h => h) ?_
            refine pz (i := 24) (N := some 37) #[true, true, true, true, true, true, true, true, true, true, true, true, true, true, true, true, true, true, true, true, true, true, true, true, true, false, false, false, false, false, false, false, false, false] rfl rfl (any_of HT_.out (by kernel_rfl)) (fun _ _ _ h => h) ?_
            refine pz (i := 25) (N := some 38) #[true, true, true, true, true, true, true, true, true, true, true, true, true, true, true, true, true, true, true, true, true, true, true, true, true, true, false, false, false, false, false, false, false, false] rfl rfl (any_of HT_.out (by kernel_rfl)) (fun _ _ _ h => h) ?_
            refine pz (i := 26) (N := some 39) #[true, true, true, true, true, true, true, true, true, true, true, true, true, true, true, true, true, true, true, true, true, true, true, true, true, true, true, false, false, false, false, false, false, false] rfl rfl (any_of HT_.out (by kernel_rfl)) (fun _ _ _ h => h) ?_
            refine pz (i := 27) (N := some 40) #[true, true, true, true, true, true, true, true, true, true, true, true, true, true, true, true, true, true, true, true, true, true, true, true, true, true, true, true, false, false, false, false, false, false] rfl rfl (any_of HT_.out (by kernel_rfl)) (fun _ _ _ h => h) ?_
            refine pz (i := 28) (N := some 41) #[true, true, true, true, true, true, true, true, true, true, true, true, true, true, true, true, true, true, true, true, true, true, true, true, true, true, true, true, true, false, false, false, false, false] rfl rfl (any_of HT_.out (by kernel_rfl)) (fun _ _ _ h => h) ?_
            refine one_ (i := 29) (N := some 42) #[true, true, true, true, true, true, true, true, true, true, true, true, true, true, true, true, true, true, true, true, true, true, true, true, true, true, true, true, true, true, false, false, false, false] rfl rfl (one_of HT_.out (by kernel_rfl)) (by decide) (fun K hK => ?_)
            refine Kd.R_lit_step k50 _ 50 ?hg (N := 42) ?hd (xs := ([(⟨1, 1⟩ : S50)] : List (S50))) (inner := [.int .i64 1, .int .i64 1]) (ok := fun _ => True) (okp := fun _ => True) ?hr ?hp (fun _ hk => hk) trivial (Below.refl _ _) (Nat.le_refl _) (by simp) ?_; (case hd => rfl); (case hg => rfl); (case hr => first | (go_simp; done) | (go_simp; rfl)); (case hp => exact (Reps.c2 (show Kd.M k50 _ _ _ (⟨1, 1⟩ : S50) [.int .i64 1, .int .i64 1] from (k50_mkM _ _ _ (⟨1, 1⟩ : S50) )) (Reps.none _ _)))
            intro v203 w38 ho39 hb hg_ hnew_
            clear hg_ hnew_
            (first | rw [← Ny202.out] at ho39 | (simp only [Int.reduceToNat] at ho39; rw [← Ny202.out] at ho39))
            have HO204 := Aside0.mk (Kd.R_lower (Kd.R_new' ho39 (Kd.R_lt (kq HO177))) (below_size (hq HB)))
            replace HO177 := Aside0.mk (Kd.R_elder' (kq HO177) (Kd.R_base ho39) hb)
            replace HO180 := kb HO180 hb
            replace HO187 := kb HO187 hb
            replace HO190 := kb HO190 hb
            replace HO194 := kb HO194 hb
            replace HO197 := kb HO197 hb
            replace BK184 := bb BK184 hb
            replace HB := bs HB hb
            clear hb ho39
            obtain ⟨Ao40, co40, eo40⟩ := Kd.R_slice HO204.out
            (first | subst eo40 | (injection eo40 with f1_ f2_ f3_; have f4_ := f1_.symm; have f5_ := f3_.symm; clear f1_ f2_ f3_; subst f4_; subst f5_))
            refine hK.out _ _ ⟨(blk_cell BK184.out 0).trans rfl, (blk_cell BK184.out 1).trans rfl⟩ (fun hHeld => ?_)
            clear hK K
            refine norm_ (a' := ?_) ?_ ?_
            rotate_left
            · show Act.put _ (some 42) _ = _
              simp only [Act.put, List.setIfInBounds_toArray, List.set_cons_zero, List.set_cons_succ, i64_w, i32_w]
              rfl
            refine one_ (i := 30) (N := some 43) #[true, true, true, true, true, true, true, true, true, true, true, true, true, true, true, true, true, true, true, true, true, true, true, true, true, true, true, true, true, true, true, false, false, false] rfl rfl (one_of HT_.out (by kernel_rfl)) (by decide) (fun K hK => ?_)
            refine goes_ Try.func16 (by kernel_rfl) rfl #[.slice Ao40 y202.length co40] (by rfl) rfl rfl zm ?_
            with_reducible refine (tier_Check.calls _ _ y202 t205 _ ?side1 ?side2 A13.out).mono ?_
            (case side1 => repeat (first | exact (Kd.R_reads' HO204.out).2.2 | (with_reducible refine Kd.C_alloc ?_ _) | (with_reducible refine Kd.C_drewN ?_ _) | (with_reducible refine Kd.C_drew ?_)))
            (case side2 => exact (Kd.R_reads' HO204.out).2.1)
            rintro e w41 ⟨rfl, hb⟩
            refine ⟨_, rfl, ?_⟩
            replace HO177 := kb HO177 hb
            replace HO180 := kb HO180 hb
            replace HO187 := kb HO187 hb
            replace HO190 := kb HO190 hb
            replace HO194 := kb HO194 hb
            replace HO197 := kb HO197 hb
            replace HO204 := kb HO204 hb
            replace BK184 := bb BK184 hb
            replace HB := bs HB hb
            (try clear hb)
            (try clear hb2)
            (try clear hk)
            (try clear hi)
            refine hK.out _ _ ⟨(blk_cell BK184.out 0).trans rfl, (blk_cell BK184.out 1).trans rfl⟩ (fun hHeld => ?_)
            clear hK K
            refine norm_ (a' := ?_) ?_ ?_
            rotate_left
            · show Act.put _ (some 43) _ = _
              simp only [Act.put, List.setIfInBounds_toArray, List.set_cons_zero, List.set_cons_succ, i64_w, i32_w]
              rfl
            refine pz (i := 31) (N := some 44) #[true, true, true, true, true, true, true, true, true, true, true, true, true, true, true, true, true, true, true, true, true, true, true, true, true, true, true, true, true, true, true, true, false, false] rfl rfl (any_of HT_.out (by kernel_rfl)) (fun _ _ _ h => h) ?_
            refine pz (i := 32) (N := some 45) #[true, true, true, true, true, true, true, true, true, true, true, true, true, true, true, true, true, true, true, true, true, true, true, true, true, true, true, true, true, true, true, true, true, false] rfl rfl (any_of HT_.out (by kernel_rfl)) (fun _ _ _ h => h) ?_
            refine pz (i := 33) (N := some 0) #[true, true, true, true, true, true, true, true, true, true, true, true, true, true, true, true, true, true, true, true, true, true, true, true, true, true, true, true, true, true, true, true, true, true] rfl rfl (any_of HT_.out (by kernel_rfl)) (fun _ _ _ h => h) ?_
            refine done_ (done_of HT_.out (by kernel_rfl)) ?_
            try go_wp2
            go_ret
            exact ⟨by first | rfl | (simp [errW_none, errW_some] <;> rfl) | (simp [*, errW_none, errW_some] <;> rfl), hq HB⟩
          · rw [if_neg c12] at H
            have c12b0 : (t183 == 0) = false := beq_eq_false_iff_ne.mpr c12
            have c12b1 : (t183 != 0) = true := bne_iff_ne.mpr c12
            exact absurd ((Option.some.inj H).trans HT.out) (by decide)
        · rw [if_neg c11] at H
          have c11b0 : (t181 == t200 && (t182 == t201)) = false := by simpa using c11
          (try (have c11b1 : decide (t181 = t200 && (t182 == t201)) = false := by simpa using c11))
          (try (have c11b2 : (t181 == t200 && (t182 == t201)) = false := by simpa using c11))
          (try (have c11b3 : ¬ (t181 = t200 && (t182 == t201)) := by simpa using c11))
          clear c11
          exact absurd ((Option.some.inj H).trans HT.out) (by decide)
      · rw [if_neg c9] at H
        have c9b0 : (t199 == 10000) = false := beq_eq_false_iff_ne.mpr c9
        have c9b1 : (t199 != 10000) = true := bne_iff_ne.mpr c9
        exact absurd ((Option.some.inj H).trans HT.out) (by decide)
    · replace c7 := Bool.eq_false_iff.mpr c7
      subst c7
      have H1 : (some false) = some r := by rw [if_neg (show ¬ (false = true) by decide)] at H; exact H
      clear H
      have H := H1
      clear H1
      exact absurd ((Option.some.inj H).trans HT.out) (by decide)
  · replace c4 := Bool.eq_false_iff.mpr c4
    subst c4
    have H1 : (some false) = some r := by rw [if_neg (show ¬ (false = true) by decide)] at H; exact H
    clear H
    have H := H1
    clear H1
    exact absurd ((Option.some.inj H).trans HT.out) (by decide)

end Go.Proofs.Ytlmabdiodopidaa.P
