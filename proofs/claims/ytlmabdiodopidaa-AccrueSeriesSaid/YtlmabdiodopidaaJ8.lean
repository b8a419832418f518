/- Texts of this seat, joined: Px19, Live14, Px20, Px21, Px22. Lemmas for the claim's theorem. -/
import Derived.Test.YtlmabdiodopidaaJ7
section
set_option linter.unusedVariables false
set_option linter.unusedSimpArgs false
namespace Go.Proofs.Ytlmabdiodopidaa.P
open Go.Proofs.Ytlmabdiodopidaa.G
attribute [local go_sem high] un_not64 un_noti run_add64
open Go.RowKit Go.Proofs.YtlmabdiodopidaaW.PrintWords Go.Proofs.YtlmabdiodopidaaW.PrintLast Go.Proofs.YtlmabdiodopidaaW.PrintMore
attribute [local go_sem] max2_int min2_int max_two min_two max_three min_three max_four min_four   -- for this text's walks alone
set_option linter.unusedVariables false
set_option linter.unusedSimpArgs false

attribute [local go_sem high] eqA35
/-! ### corebanklaw14_liveT: function 18 -/
def corebanklaw14_liveT.f (k : Nat)  : Option (Bool) := (some (([(⟨0, 10000⟩ : S50), (⟨1000, 20000⟩ : S50)] : List (S50)) : List (S50))).bind fun y217 => ((tier_Grains.f k (([(⟨100000, 15000⟩ : S43)] : List (S43))) 4392).bind fun bt223 => ((tier_Slices.f k y217 true (-1500)).bind fun t227 => ((corebankref14_Same.f k t227 (([(⟨1000, 10000⟩ : S43), (⟨500, 20000⟩ : S43)] : List (S43)))).bind fun t233 => (if t233 = true then ((tier_Slices.f k y217 false 1000).bind fun t234 => ((corebankref14_Same.f k t234 (([(⟨1000, 20000⟩ : S43)] : List (S43)))).bind fun t240 => (if t240 = true then ((tier_Rate.f k y217 999).bind fun t241 => (if t241 = 10000 then ((corebankref01_Of.f 6588000000000).bind fun bt242 => (if (bt223.1 == bt242.1 && (bt223.2.1 == bt242.2)) = true then (if bt223.2.2 = 0 then ((tier_Check.f (([(⟨1, 1⟩ : S50)] : List (S50)))).bind fun t247 => (some (t247 == 1))) else (some false)) else (some false))) else (some false))) else (some false)))) else (some false)))))
theorem corebanklaw14_liveT.mono : ∀ k, LeO (corebanklaw14_liveT.f k ) (corebanklaw14_liveT.f (k + 1) ) := by
  intro  k
  unfold corebanklaw14_liveT.f
  repeat' first
      | (with_reducible exact corebankref14_Same.mono _ _ _)
      | (with_reducible exact tier_Grains.mono _ _ _)
      | (with_reducible exact tier_Rate.mono _ _ _)
      | (with_reducible exact tier_Slices.mono _ _ _ _)
      | (with_reducible exact LeO.refl _)
      | (with_reducible exact LeO.none _)
      | (with_reducible refine LeO.ite ?_ ?_)
      | (with_reducible refine LeO.bind ?_ (fun _ => ?_))
      | exact corebankref14_Same.mono _ _ _
      | exact tier_Grains.mono _ _ _
      | exact tier_Rate.mono _ _ _
      | exact tier_Slices.mono _ _ _ _
      | exact LeO.none _
      | refine LeO.ite ?_ ?_
      | refine LeO.bind ?_ (fun _ => ?_)
def corebanklaw14_liveT.T3 : Bool × List (List Nat × List Nat) := (true, [([], []), ([0], [0]), ([], []), ([], []), ([2, 3], [2, 3]), ([1, 4, 1], [1, 4]), ([5, 5], [5]), ([6], [6]), ([7, 6, 6], [6, 7]), ([6], [6]), ([9, 6], [6, 9]), ([8, 10, 8, 6], [6, 8, 10]), ([6, 11], [6, 11]), ([12, 11], [12]), ([13], [13]), ([14, 13, 13], [13, 14]), ([15, 13], [13, 15]), ([13, 16], [13, 16]), ([17, 15], [17]), ([18], [18]), ([18, 18], [18]), ([19, 20, 18], [18, 19, 20]), ([18, 21], [18, 21]), ([22, 20], [22]), ([23], [23]), ([24, 23], [23, 24]), ([23, 25], [23, 25]), ([26, 23], [26]), ([27], [27]), ([28, 27], [27, 28]), ([29, 27, 27], [27, 29]), ([30, 27], [27, 30]), ([27, 31], [27, 31]), ([32, 30, 0, 1, 2, 3, 4, 5, 6, 7, 8, 9, 10, 11, 12, 13, 14, 15, 16, 17, 18, 19, 20, 21, 22, 23, 24, 25, 26, 27, 28, 29, 30, 31, 32], [32])])
def corebanklaw14_liveT.B3 : List Nat := [0, 1, 0, 0, 12, 31, 63, 127, 255, 127, 639, 2047, 4095, 8191, 16383, 32767, 65535, 131071, 262143, 524287, 524287, 2097151, 4194303, 8388607, 16777215, 33554431, 67108863, 134217727, 268435455, 536870911, 1073741823, 2147483647, 4294967295, 8589934591]
theorem corebanklaw14_liveT.tab3 : rtab .any (opsOf Try.f18 3) = corebanklaw14_liveT.T3 := by kernel_rfl
theorem corebanklaw14_liveT.bits3 : waitsOk corebanklaw14_liveT.T3.2 corebanklaw14_liveT.B3 = true := by kernel_rfl
set_option maxHeartbeats 8000000 in
set_option maxRecDepth 100000 in
theorem corebanklaw14_liveT.calls (k : Nat)  (r : Bool) (w : World) (hT : r = true) (h : corebanklaw14_liveT.f k  = some r) :
    Calls Try.prog 18 #[] w fun e w' => e = .returned (.bool r) ∧ Below w.heap.size w w' := by
  have hu50 := Try.underlying50
  have hu43 := Try.underlying43
  have hu35 := Try.underlying35
  have HB := Aside0.mk (Below.refl w.heap.size w)
  have HT := Aside0.mk hT
  clear hT
  have H : ((some (([(⟨0, 10000⟩ : S50), (⟨1000, 20000⟩ : S50)] : List (S50)) : List (S50))).bind fun y217 => ((tier_Grains.f k (([(⟨100000, 15000⟩ : S43)] : List (S43))) 4392).bind fun bt223 => ((tier_Slices.f k y217 true (-1500)).bind fun t227 => ((corebankref14_Same.f k t227 (([(⟨1000, 10000⟩ : S43), (⟨500, 20000⟩ : S43)] : List (S43)))).bind fun t233 => (if t233 = true then ((tier_Slices.f k y217 false 1000).bind fun t234 => ((corebankref14_Same.f k t234 (([(⟨1000, 20000⟩ : S43)] : List (S43)))).bind fun t240 => (if t240 = true then ((tier_Rate.f k y217 999).bind fun t241 => (if t241 = 10000 then ((corebankref01_Of.f 6588000000000).bind fun bt242 => (if (bt223.1 == bt242.1 && (bt223.2.1 == bt242.2)) = true then (if bt223.2.2 = 0 then ((tier_Check.f (([(⟨1, 1⟩ : S50)] : List (S50)))).bind fun t247 => (some (t247 == 1))) else (some false)) else (some false))) else (some false))) else (some false)))) else (some false)))))) = some r := h
  clear h
  obtain ⟨y217, hy217⟩ : ∃ y_ : List (S50), y_ = (([(⟨0, 10000⟩ : S50), (⟨1000, 20000⟩ : S50)] : List (S50))) := ⟨_, rfl⟩
  replace H : ((tier_Grains.f k (([(⟨100000, 15000⟩ : S43)] : List (S43))) 4392).bind fun bt223 => ((tier_Slices.f k y217 true (-1500)).bind fun t227 => ((corebankref14_Same.f k t227 (([(⟨1000, 10000⟩ : S43), (⟨500, 20000⟩ : S43)] : List (S43)))).bind fun t233 => (if t233 = true then ((tier_Slices.f k y217 false 1000).bind fun t234 => ((corebankref14_Same.f k t234 (([(⟨1000, 20000⟩ : S43)] : List (S43)))).bind fun t240 => (if t240 = true then ((tier_Rate.f k y217 999).bind fun t241 => (if t241 = 10000 then ((corebankref01_Of.f 6588000000000).bind fun bt242 => (if (bt223.1 == bt242.1 && (bt223.2.1 == bt242.2)) = true then (if bt223.2.2 = 0 then ((tier_Check.f (([(⟨1, 1⟩ : S50)] : List (S50)))).bind fun t247 => (some (t247 == 1))) else (some false)) else (some false))) else (some false))) else (some false)))) else (some false))))) = some r := by first | (rw [hy217]; with_reducible exact H) | (have H2_ := (Option.bind_some _ _).symm.trans H; rw [hy217]; with_reducible exact H2_) | (have H2_ := (Option.bind_some _ _).symm.trans H; with_reducible exact H2_) | with_reducible exact H | (rw [hy217]; exact H) | exact H
  have Ny217 := Aside0.mk hy217
  clear hy217
  obtain ⟨y220, hy220⟩ : ∃ y_ : List (S43), y_ = (([(⟨100000, 15000⟩ : S43)] : List (S43))) := ⟨_, rfl⟩
  replace H : ((tier_Grains.f k y220 4392).bind fun bt223 => ((tier_Slices.f k y217 true (-1500)).bind fun t227 => ((corebankref14_Same.f k t227 (([(⟨1000, 10000⟩ : S43), (⟨500, 20000⟩ : S43)] : List (S43)))).bind fun t233 => (if t233 = true then ((tier_Slices.f k y217 false 1000).bind fun t234 => ((corebankref14_Same.f k t234 (([(⟨1000, 20000⟩ : S43)] : List (S43)))).bind fun t240 => (if t240 = true then ((tier_Rate.f k y217 999).bind fun t241 => (if t241 = 10000 then ((corebankref01_Of.f 6588000000000).bind fun bt242 => (if (bt223.1 == bt242.1 && (bt223.2.1 == bt242.2)) = true then (if bt223.2.2 = 0 then ((tier_Check.f (([(⟨1, 1⟩ : S50)] : List (S50)))).bind fun t247 => (some (t247 == 1))) else (some false)) else (some false))) else (some false))) else (some false)))) else (some false))))) = some r := by first | (rw [hy220]; with_reducible exact H) | (have H2_ := (Option.bind_some _ _).symm.trans H; rw [hy220]; with_reducible exact H2_) | (have H2_ := (Option.bind_some _ _).symm.trans H; with_reducible exact H2_) | with_reducible exact H | (rw [hy220]; exact H) | exact H
  have Ny220 := Aside0.mk hy220
  clear hy220
  replace H := Option.bind_eq_some_iff.mp H
  obtain ⟨⟨t223, t224, t225⟩, A10, H⟩ := H
  replace H : ((tier_Slices.f k y217 true (-1500)).bind fun t227 => ((corebankref14_Same.f k t227 (([(⟨1000, 10000⟩ : S43), (⟨500, 20000⟩ : S43)] : List (S43)))).bind fun t233 => (if t233 = true then ((tier_Slices.f k y217 false 1000).bind fun t234 => ((corebankref14_Same.f k t234 (([(⟨1000, 20000⟩ : S43)] : List (S43)))).bind fun t240 => (if t240 = true then ((tier_Rate.f k y217 999).bind fun t241 => (if t241 = 10000 then ((corebankref01_Of.f 6588000000000).bind fun bt242 => (if (t223 == bt242.1 && (t224 == bt242.2)) = true then (if t225 = 0 then ((tier_Check.f (([(⟨1, 1⟩ : S50)] : List (S50)))).bind fun t247 => (some (t247 == 1))) else (some false)) else (some false))) else (some false))) else (some false)))) else (some false)))) = some r := H
  have A1 := Aside0.mk A10
  clear A10
  replace H := Option.bind_eq_some_iff.mp H
  obtain ⟨t227, A20, H⟩ := H
  replace H : ((corebankref14_Same.f k t227 (([(⟨1000, 10000⟩ : S43), (⟨500, 20000⟩ : S43)] : List (S43)))).bind fun t233 => (if t233 = true then ((tier_Slices.f k y217 false 1000).bind fun t234 => ((corebankref14_Same.f k t234 (([(⟨1000, 20000⟩ : S43)] : List (S43)))).bind fun t240 => (if t240 = true then ((tier_Rate.f k y217 999).bind fun t241 => (if t241 = 10000 then ((corebankref01_Of.f 6588000000000).bind fun bt242 => (if (t223 == bt242.1 && (t224 == bt242.2)) = true then (if t225 = 0 then ((tier_Check.f (([(⟨1, 1⟩ : S50)] : List (S50)))).bind fun t247 => (some (t247 == 1))) else (some false)) else (some false))) else (some false))) else (some false)))) else (some false))) = some r := H
  have A2 := Aside0.mk A20
  clear A20
  obtain ⟨y230, hy230⟩ : ∃ y_ : List (S43), y_ = (([(⟨1000, 10000⟩ : S43), (⟨500, 20000⟩ : S43)] : List (S43))) := ⟨_, rfl⟩
  replace H : ((corebankref14_Same.f k t227 y230).bind fun t233 => (if t233 = true then ((tier_Slices.f k y217 false 1000).bind fun t234 => ((corebankref14_Same.f k t234 (([(⟨1000, 20000⟩ : S43)] : List (S43)))).bind fun t240 => (if t240 = true then ((tier_Rate.f k y217 999).bind fun t241 => (if t241 = 10000 then ((corebankref01_Of.f 6588000000000).bind fun bt242 => (if (t223 == bt242.1 && (t224 == bt242.2)) = true then (if t225 = 0 then ((tier_Check.f (([(⟨1, 1⟩ : S50)] : List (S50)))).bind fun t247 => (some (t247 == 1))) else (some false)) else (some false))) else (some false))) else (some false)))) else (some false))) = some r := by first | (rw [hy230]; with_reducible exact H) | (have H2_ := (Option.bind_some _ _).symm.trans H; rw [hy230]; with_reducible exact H2_) | (have H2_ := (Option.bind_some _ _).symm.trans H; with_reducible exact H2_) | with_reducible exact H | (rw [hy230]; exact H) | exact H
  have Ny230 := Aside0.mk hy230
  clear hy230
  replace H := Option.bind_eq_some_iff.mp H
  obtain ⟨t233, A30, H⟩ := H
  replace H : (if t233 = true then ((tier_Slices.f k y217 false 1000).bind fun t234 => ((corebankref14_Same.f k t234 (([(⟨1000, 20000⟩ : S43)] : List (S43)))).bind fun t240 => (if t240 = true then ((tier_Rate.f k y217 999).bind fun t241 => (if t241 = 10000 then ((corebankref01_Of.f 6588000000000).bind fun bt242 => (if (t223 == bt242.1 && (t224 == bt242.2)) = true then (if t225 = 0 then ((tier_Check.f (([(⟨1, 1⟩ : S50)] : List (S50)))).bind fun t247 => (some (t247 == 1))) else (some false)) else (some false))) else (some false))) else (some false)))) else (some false)) = some r := H
  have A3 := Aside0.mk A30
  clear A30
  by_cases c4 : t233 = true
  · subst c4
    have H1 : ((tier_Slices.f k y217 false 1000).bind fun t234 => ((corebankref14_Same.f k t234 (([(⟨1000, 20000⟩ : S43)] : List (S43)))).bind fun t240 => (if t240 = true then ((tier_Rate.f k y217 999).bind fun t241 => (if t241 = 10000 then ((corebankref01_Of.f 6588000000000).bind fun bt242 => (if (t223 == bt242.1 && (t224 == bt242.2)) = true then (if t225 = 0 then ((tier_Check.f (([(⟨1, 1⟩ : S50)] : List (S50)))).bind fun t247 => (some (t247 == 1))) else (some false)) else (some false))) else (some false))) else (some false)))) = some r := by rw [if_pos rfl] at H; exact H
    clear H
    have H := H1
    clear H1
    replace H := Option.bind_eq_some_iff.mp H
    obtain ⟨t234, A50, H⟩ := H
    replace H : ((corebankref14_Same.f k t234 (([(⟨1000, 20000⟩ : S43)] : List (S43)))).bind fun t240 => (if t240 = true then ((tier_Rate.f k y217 999).bind fun t241 => (if t241 = 10000 then ((corebankref01_Of.f 6588000000000).bind fun bt242 => (if (t223 == bt242.1 && (t224 == bt242.2)) = true then (if t225 = 0 then ((tier_Check.f (([(⟨1, 1⟩ : S50)] : List (S50)))).bind fun t247 => (some (t247 == 1))) else (some false)) else (some false))) else (some false))) else (some false))) = some r := H
    have A5 := Aside0.mk A50
    clear A50
    obtain ⟨y237, hy237⟩ : ∃ y_ : List (S43), y_ = (([(⟨1000, 20000⟩ : S43)] : List (S43))) := ⟨_, rfl⟩
    replace H : ((corebankref14_Same.f k t234 y237).bind fun t240 => (if t240 = true then ((tier_Rate.f k y217 999).bind fun t241 => (if t241 = 10000 then ((corebankref01_Of.f 6588000000000).bind fun bt242 => (if (t223 == bt242.1 && (t224 == bt242.2)) = true then (if t225 = 0 then ((tier_Check.f (([(⟨1, 1⟩ : S50)] : List (S50)))).bind fun t247 => (some (t247 == 1))) else (some false)) else (some false))) else (some false))) else (some false))) = some r := by first | (rw [hy237]; with_reducible exact H) | (have H2_ := (Option.bind_some _ _).symm.trans H; rw [hy237]; with_reducible exact H2_) | (have H2_ := (Option.bind_some _ _).symm.trans H; with_reducible exact H2_) | with_reducible exact H | (rw [hy237]; exact H) | exact H
    have Ny237 := Aside0.mk hy237
    clear hy237
    replace H := Option.bind_eq_some_iff.mp H
    obtain ⟨t240, A60, H⟩ := H
    replace H : (if t240 = true then ((tier_Rate.f k y217 999).bind fun t241 => (if t241 = 10000 then ((corebankref01_Of.f 6588000000000).bind fun bt242 => (if (t223 == bt242.1 && (t224 == bt242.2)) = true then (if t225 = 0 then ((tier_Check.f (([(⟨1, 1⟩ : S50)] : List (S50)))).bind fun t247 => (some (t247 == 1))) else (some false)) else (some false))) else (some false))) else (some false)) = some r := H
    have A6 := Aside0.mk A60
    clear A60
    by_cases c7 : t240 = true
    · subst c7
      have H1 : ((tier_Rate.f k y217 999).bind fun t241 => (if t241 = 10000 then ((corebankref01_Of.f 6588000000000).bind fun bt242 => (if (t223 == bt242.1 && (t224 == bt242.2)) = true then (if t225 = 0 then ((tier_Check.f (([(⟨1, 1⟩ : S50)] : List (S50)))).bind fun t247 => (some (t247 == 1))) else (some false)) else (some false))) else (some false))) = some r := by rw [if_pos rfl] at H; exact H
      clear H
      have H := H1
      clear H1
      replace H := Option.bind_eq_some_iff.mp H
      obtain ⟨t241, A80, H⟩ := H
      replace H : (if t241 = 10000 then ((corebankref01_Of.f 6588000000000).bind fun bt242 => (if (t223 == bt242.1 && (t224 == bt242.2)) = true then (if t225 = 0 then ((tier_Check.f (([(⟨1, 1⟩ : S50)] : List (S50)))).bind fun t247 => (some (t247 == 1))) else (some false)) else (some false))) else (some false)) = some r := H
      have A8 := Aside0.mk A80
      clear A80
      by_cases c9 : t241 = 10000
      · rw [if_pos c9] at H
        have c9b0 : (t241 == 10000) = true := beq_iff_eq.mpr c9
        have c9b1 : (t241 != 10000) = false := bne_eq_false_iff_eq.mpr c9
        clear c9
        replace H := Option.bind_eq_some_iff.mp H
        obtain ⟨⟨t242, t243⟩, A100, H⟩ := H
        replace H : (if (t223 == t242 && (t224 == t243)) = true then (if t225 = 0 then ((tier_Check.f (([(⟨1, 1⟩ : S50)] : List (S50)))).bind fun t247 => (some (t247 == 1))) else (some false)) else (some false)) = some r := H
        have A10 := Aside0.mk A100
        clear A100
        by_cases c11 : (t223 == t242 && (t224 == t243)) = true
        · rw [if_pos c11] at H
          have c11b0 : (t223 == t242 && (t224 == t243)) = true := c11
          (try (have c11b1 : decide (t223 = t242 && (t224 == t243)) = true := by simpa using c11))
          (try (have c11b2 : (t223 == t242 && (t224 == t243)) = true := by simpa using c11))
          clear c11
          by_cases c12 : t225 = 0
          · rw [if_pos c12] at H
            have c12b0 : (t225 == 0) = true := beq_iff_eq.mpr c12
            have c12b1 : (t225 != 0) = false := bne_eq_false_iff_eq.mpr c12
            clear c12
            obtain ⟨y244, hy244⟩ : ∃ y_ : List (S50), y_ = (([(⟨1, 1⟩ : S50)] : List (S50))) := ⟨_, rfl⟩
            replace H : ((tier_Check.f y244).bind fun t247 => (some (t247 == 1))) = some r := by first | (rw [hy244]; with_reducible exact H) | (have H2_ := (Option.bind_some _ _).symm.trans H; rw [hy244]; with_reducible exact H2_) | (have H2_ := (Option.bind_some _ _).symm.trans H; with_reducible exact H2_) | with_reducible exact H | (rw [hy244]; exact H) | exact H
            have Ny244 := Aside0.mk hy244
            clear hy244
            replace H := Option.bind_eq_some_iff.mp H
            obtain ⟨t247, A130, H⟩ := H
            replace H : (some (t247 == 1)) = some r := H
            have A13 := Aside0.mk A130
            clear A130
            obtain rfl := Option.some.inj H
            go_enter Try.func18, Try.ntmps18
            try go_wp2_with (first | ((with_reducible refine gate_dst (N := 6) rfl ?_); (try (refine gate_guard (by rfl) ?_; dsimp only)); refine Kd.R_lit k50 _ 50 ?hg (N := 6) ?hd (xs := ([(⟨0, 10000⟩ : S50), (⟨1000, 20000⟩ : S50)] : List (S50))) (inner := [.int .i64 0, .int .i64 10000, .int .i64 1000, .int .i64 20000]) (ok := fun _ => True) (okp := fun _ => True) ?hr ?hp (fun _ hk => hk) trivial (Below.refl _ _) (Nat.le_refl _) (by simp) ?_; (case hd => rfl); (case hg => rfl); (case hr => first | (go_simp; done) | (go_simp; rfl)); (case hp => exact (Reps.c2 (show Kd.M k50 _ _ _ (⟨0, 10000⟩ : S50) [.int .i64 0, .int .i64 10000] from (k50_mkM _ _ _ (⟨0, 10000⟩ : S50) )) (Reps.c2 (show Kd.M k50 _ _ _ (⟨1000, 20000⟩ : S50) [.int .i64 1000, .int .i64 20000] from (k50_mkM _ _ _ (⟨1000, 20000⟩ : S50) )) (Reps.none _ _)))); intro v218 w14 ho15 hb hg_ hnew_; clear hg_ hnew_; (first | rw [← Ny217.out] at ho15 | (simp only [Int.reduceToNat] at ho15; rw [← Ny217.out] at ho15)); have HO219 := Aside0.mk (Kd.R_lower ho15 (below_size (hq HB))); replace HB := bs HB hb; clear hb ho15) | ((with_reducible refine gate_dst (N := 9) rfl ?_); (try (refine gate_guard (by rfl) ?_; dsimp only)); refine Kd.R_lit k43 _ 43 ?hg (N := 9) ?hd (xs := ([(⟨100000, 15000⟩ : S43)] : List (S43))) (inner := [.int .i64 100000, .int .i64 15000]) (ok := fun _ => True) (okp := fun _ => True) ?hr ?hp (fun _ hk => hk) trivial (Below.refl _ _) (Nat.le_refl _) (by simp) ?_; (case hd => rfl); (case hg => rfl); (case hr => first | (go_simp; done) | (go_simp; rfl)); (case hp => exact (Reps.c2 (show Kd.M k43 _ _ _ (⟨100000, 15000⟩ : S43) [.int .i64 100000, .int .i64 15000] from (k43_mkM _ _ _ (⟨100000, 15000⟩ : S43) )) (Reps.none _ _))); intro v221 w16 ho17 hb hg_ hnew_; clear hg_ hnew_; (first | rw [← Ny220.out] at ho17 | (simp only [Int.reduceToNat] at ho17; rw [← Ny220.out] at ho17)); have HO222 := Aside0.mk (Kd.R_lower ho17 (below_size (hq HB))); replace HO219 := kb HO219 hb; replace HB := bs HB hb; clear hb ho17; obtain ⟨Ao18, co18, eo18⟩ := Kd.R_slice HO222.out; subst eo18) | ((with_reducible refine gate_callee (f := 24) rfl ?_); refine goesL_ (some 10) rfl rfl Try.func24 (by kernel_rfl) rfl #[.slice Ao18 y220.length co18, .int .i64 4392] rfl zm ?_; (with_reducible refine (tier_Grains.calls k _ _ y220 4392 t223 t224 t225 _ ?side1 ?side2 A1.out).mono ?_); (case side1 => repeat (first | exact (Kd.R_reads' HO222.out).2.2 | (with_reducible refine Kd.C_alloc ?_ _) | (with_reducible refine Kd.C_drewN ?_ _) | (with_reducible refine Kd.C_drew ?_))); (case side2 => exact (Kd.R_reads' HO222.out).2.1); rintro e w19 ⟨rfl, hb⟩; refine ⟨_, rfl, ?_⟩; replace HO219 := kb HO219 hb; replace HO222 := kb HO222 hb; replace HB := bs HB hb; (try clear hb); (try clear hb2); (try clear hk); (try clear hi)) | ((with_reducible refine gate_dst (N := 2) rfl ?_); (try (refine gate_guard (by rfl) ?_; dsimp only)); refine box_event ?hg (N := 2) ?hd (cs := #[.int .i64 0, .int .u64 0]) (t := 35) ?hr ?_; (case hd => rfl); (case hg => rfl); (case hr => first | (go_simp; done) | (go_simp; rfl)); intro gb226 hg w20 hbox hb; have BK226 := Aside0.mk (hbox); have GW226 := ge HB hg; have GE226 := ge HB hg; replace HO219 := kb HO219 hb; replace HO222 := kb HO222 hb; replace HB := bs HB hb; clear hb hbox hg; obtain ⟨hcz21_0, hcz21_1, hfz21_0, hfz21_1⟩ := cz2 BK226; obtain ⟨Ao22, co22, eo22⟩ := Kd.R_slice HO219.out; subst eo22))
            have n0_ : Aside0 (Kd.R k50 50 ((w20.setCell ⟨gb226, 0, none⟩ (.int .i64 t223)).setCell ⟨gb226, 1, none⟩ (.int .u64 t224)) w.heap.size (fun _ => True) (.slice Ao22 y217.length co22) y217) := ⟨by (with_reducible repeat (first | apply Kd.R_alloc | apply Kd.R_drewN | apply Kd.R_drew)); exact Kd.R_mono (Kd.R_far (p := ⟨gb226, 1, none⟩) (Kd.R_far (p := ⟨gb226, 0, none⟩) (Kd.R_types HO219.out BK226.out (by decide)) (fun _ hk => hk.2) (.int .i64 t223)) (fun _ hk => hk.2) (.int .u64 t224)) (fun _ hk => trivial)⟩
            have n1_ : Aside0 (Kd.R k43 43 ((w20.setCell ⟨gb226, 0, none⟩ (.int .i64 t223)).setCell ⟨gb226, 1, none⟩ (.int .u64 t224)) w.heap.size (fun _ => True) (.slice Ao18 y220.length co18) y220) := ⟨by (with_reducible repeat (first | apply Kd.R_alloc | apply Kd.R_drewN | apply Kd.R_drew)); exact Kd.R_mono (Kd.R_far (p := ⟨gb226, 1, none⟩) (Kd.R_far (p := ⟨gb226, 0, none⟩) (Kd.R_types HO222.out BK226.out (by decide)) (fun _ hk => hk.2) (.int .i64 t223)) (fun _ hk => hk.2) (.int .u64 t224)) (fun _ hk => trivial)⟩
            have n2_ : Aside0 (((w20.setCell ⟨gb226, 0, none⟩ (.int .i64 t223)).setCell ⟨gb226, 1, none⟩ (.int .u64 t224)).heap[gb226]? = some (.cells #[.int .i64 t223, .int .u64 t224] 35 (0, 0))) := ⟨bp BK226⟩
            have n3_ : Aside0 (Below w.heap.size w ((w20.setCell ⟨gb226, 0, none⟩ (.int .i64 t223)).setCell ⟨gb226, 1, none⟩ (.int .u64 t224))) := ⟨hq HB⟩
            (try clear HO219)
            (try clear HO222)
            (try clear BK226)
            (try clear HB)
            generalize ((w20.setCell ⟨gb226, 0, none⟩ (.int .i64 t223)).setCell ⟨gb226, 1, none⟩ (.int .u64 t224)) = w23 at n0_ n1_ n2_ n3_ ⊢
            have HO219 := n0_
            have HO222 := n1_
            have BK226 := n2_
            have HB := n3_
            clear n0_ n1_ n2_ n3_
            replace HO219 := Aside0.mk (Kd.R_drew HO219.out)
            replace HO222 := Aside0.mk (Kd.R_drew HO222.out)
            replace BK226 := bd1 BK226
            replace HB := hb1 HB
            refine start_ (n := 34) (S := fun w' => w'.cell? ⟨gb226, 0, none⟩ = some (.int .i64 t223) ∧ w'.cell? ⟨gb226, 1, none⟩ = some (.int .u64 t224)) (ds := []) #[false, false, false, false, false, false, false, false, false, false, false, false, false, false, false, false, false, false, false, false, false, false, false, false, false, false, false, false, false, false, false, false, false, false] (by kernel_rfl) rfl rfl ⟨(blk_cell BK226.out 0).trans rfl, (blk_cell BK226.out 1).trans rfl⟩ (fun hHeld => ?_); refine with_tabW corebanklaw14_liveT.tab3 corebanklaw14_liveT.bits3 (fun HT_ HW_ => ?_)
            generalize w23.drew = w24 at HO219 HO222 BK226 HB hHeld ⊢
            refine pz (i := 0) (N := some 13) #[true, false, false, false, false, false, false, false, false, false, false, false, false, false, false, false, false, false, false, false, false, false, false, false, false, false, false, false, false, false, false, false, false, false] rfl rfl (any_of HT_.out (by kernel_rfl)) (fun _ _ _ h => h) ?_
            refine pz (i := 2) (N := some 15) #[true, false, true, false, false, false, false, false, false, false, false, false, false, false, false, false, false, false, false, false, false, false, false, false, false, false, false, false, false, false, false, false, false, false] rfl rfl (any_of HT_.out (by kernel_rfl)) (fun _ _ _ h => h) ?_
            refine pz (i := 3) (N := some 16) #[true, false, true, true, false, false, false, false, false, false, false, false, false, false, false, false, false, false, false, false, false, false, false, false, false, false, false, false, false, false, false, false, false, false] rfl rfl (any_of HT_.out (by kernel_rfl)) (fun _ _ _ h => h) ?_
            refine join_ (σ := Value × Value × Value × Value) 23 #[true, true, true, true, true, true, true, true, true, true, true, false, false, false, false, false, false, false, false, false, false, false, false, false, false, false, false, false, false, false, false, false, false, false] (fun s_ => [(14, s_.1), (17, s_.2.1), (18, .bool true), (21, s_.2.2.1), (23, s_.2.2.2), (19, .bool true), (20, .slice Ao22 y217.length co22), (22, .agg #[.int .i64 1000, .int .i64 20000])]) (fun s_ w' => (w'.cell? ⟨gb226, 0, none⟩ = some (.int .i64 t223) ∧ w'.cell? ⟨gb226, 1, none⟩ = some (.int .u64 t224)) ∧ (Kd.R k50 50 w' w.heap.size (fun _ => True) (.slice Ao22 y217.length co22) y217) ∧ (Kd.R k43 43 w' w.heap.size (fun k_ => some k_ ≠ (s_.1 : Value).ownBlock ∧ some k_ ≠ (s_.2.1 : Value).ownBlock ∧ some k_ ≠ (s_.2.2.1 : Value).ownBlock ∧ some k_ ≠ (s_.2.2.2 : Value).ownBlock) (.slice Ao18 y220.length co18) y220) ∧ (Kd.R k43 43 w' w.heap.size (fun k_ => some k_ ≠ (.slice Ao18 y220.length co18 : Value).ownBlock ∧ some k_ ≠ (s_.2.1 : Value).ownBlock ∧ some k_ ≠ (s_.2.2.1 : Value).ownBlock ∧ some k_ ≠ (s_.2.2.2 : Value).ownBlock) s_.1 t227) ∧ (Kd.R k43 43 w' w.heap.size (fun k_ => some k_ ≠ (.slice Ao18 y220.length co18 : Value).ownBlock ∧ some k_ ≠ (s_.1 : Value).ownBlock ∧ some k_ ≠ (s_.2.2.1 : Value).ownBlock ∧ some k_ ≠ (s_.2.2.2 : Value).ownBlock) s_.2.1 y230) ∧ (Kd.R k43 43 w' w.heap.size (fun k_ => some k_ ≠ (.slice Ao18 y220.length co18 : Value).ownBlock ∧ some k_ ≠ (s_.1 : Value).ownBlock ∧ some k_ ≠ (s_.2.1 : Value).ownBlock ∧ some k_ ≠ (s_.2.2.2 : Value).ownBlock) s_.2.2.1 t234) ∧ (Kd.R k43 43 w' w.heap.size (fun k_ => some k_ ≠ (.slice Ao18 y220.length co18 : Value).ownBlock ∧ some k_ ≠ (s_.1 : Value).ownBlock ∧ some k_ ≠ (s_.2.1 : Value).ownBlock ∧ some k_ ≠ (s_.2.2.1 : Value).ownBlock) s_.2.2.2 y237) ∧ (w'.heap[gb226]? = some (.cells #[.int .i64 t223, .int .u64 t224] 35 (0, 0))) ∧ (Below w.heap.size w w')) ?_ ?_
            rotate_left
            · intro hCont
              refine two_ (i := 1) (j := 4) (Ni := some 14) (Nj := some 17) #[true, true, true, true, false, false, false, false, false, false, false, false, false, false, false, false, false, false, false, false, false, false, false, false, false, false, false, false, false, false, false, false, false, false] #[true, false, true, true, true, false, false, false, false, false, false, false, false, false, false, false, false, false, false, false, false, false, false, false, false, false, false, false, false, false, false, false, false, false] rfl rfl rfl rfl (two_of HT_.out (by kernel_rfl)) (by decide) (by decide) (fun K hK => ?_) (fun K hK => ?_)
              · skip
                refine goes_ Try.func22 (by kernel_rfl) rfl #[.slice Ao22 y217.length co22, .bool true, .int .i64 (-1500)] (by rfl) rfl rfl zm ?_
                with_reducible refine (tier_Slices.calls k _ _ y217 true (-1500) t227 _ ?side1 ?side2 A2.out).mono ?_
                (case side1 => repeat (first | exact (Kd.R_reads' HO219.out).2.2 | (with_reducible refine Kd.C_alloc ?_ _) | (with_reducible refine Kd.C_drewN ?_ _) | (with_reducible refine Kd.C_drew ?_)))
                (case side2 => exact (Kd.R_reads' HO219.out).2.1)
                rintro e w25 ⟨v228, rfl, ho0, hb⟩
                refine ⟨_, rfl, ?_⟩
                have HO229 := Aside0.mk (Kd.R_lower (Kd.R_new' ho0 (Kd.R_lt (kq HO222))) (below_size (hq HB)))
                replace HO219 := kb HO219 hb
                replace HO222 := Aside0.mk (Kd.R_elder' (kq HO222) (Kd.R_base ho0) hb)
                replace BK226 := bb BK226 hb
                replace HB := bs HB hb
                (try clear hb)
                (try clear hb2)
                (try clear hk)
                (try clear hi)
                (try clear ho0)
                refine hK.out _ _ ⟨(blk_cell BK226.out 0).trans rfl, (blk_cell BK226.out 1).trans rfl⟩ (fun hHeld => ?_)
                clear hK K
                refine norm_ (a' := ?_) ?_ ?_
                rotate_left
                · show Act.put _ (some 14) _ = _
                  simp only [Act.put, List.setIfInBounds_toArray, List.set_cons_zero, List.set_cons_succ, i64_w, i32_w]
                  rfl
                refine one_ (i := 4) (N := some 17) #[true, true, true, true, true, false, false, false, false, false, false, false, false, false, false, false, false, false, false, false, false, false, false, false, false, false, false, false, false, false, false, false, false, false] rfl rfl (one_of HT_.out (by kernel_rfl)) (by decide) (fun K hK => ?_)
                refine Kd.R_lit_step k43 _ 43 ?hg (N := 17) ?hd (xs := ([(⟨1000, 10000⟩ : S43), (⟨500, 20000⟩ : S43)] : List (S43))) (inner := [.int .i64 1000, .int .i64 10000, .int .i64 500, .int .i64 20000]) (ok := fun _ => True) (okp := fun _ => True) ?hr ?hp (fun _ hk => hk) trivial (Below.refl _ _) (Nat.le_refl _) (by simp) ?_; (case hd => rfl); (case hg => rfl); (case hr => first | (go_simp; done) | (go_simp; rfl)); (case hp => exact (Reps.c2 (show Kd.M k43 _ _ _ (⟨1000, 10000⟩ : S43) [.int .i64 1000, .int .i64 10000] from (k43_mkM _ _ _ (⟨1000, 10000⟩ : S43) )) (Reps.c2 (show Kd.M k43 _ _ _ (⟨500, 20000⟩ : S43) [.int .i64 500, .int .i64 20000] from (k43_mkM _ _ _ (⟨500, 20000⟩ : S43) )) (Reps.none _ _))))
                intro v231 w26 ho27 hb hg_ hnew_
                clear hg_ hnew_
                (first | rw [← Ny230.out] at ho27 | (simp only [Int.reduceToNat] at ho27; rw [← Ny230.out] at ho27))
                have HO232 := Aside0.mk (Kd.R_lower (Kd.R_new' (Kd.R_new' ho27 (Kd.R_lt (kq HO222))) (Kd.R_lt (kq HO229))) (below_size (hq HB)))
                replace HO219 := kb HO219 hb
                replace HO222 := Aside0.mk (Kd.R_elder' (kq HO222) (Kd.R_base ho27) hb)
                replace HO229 := Aside0.mk (Kd.R_elder' (kq HO229) (Kd.R_base ho27) hb)
                replace BK226 := bb BK226 hb
                replace HB := bs HB hb
                clear hb ho27
                obtain ⟨Ao28, co28, eo28⟩ := Kd.R_slice HO229.out
                (first | subst eo28 | (injection eo28 with f1_ f2_ f3_; have f4_ := f1_.symm; have f5_ := f3_.symm; clear f1_ f2_ f3_; subst f4_; subst f5_))
                obtain ⟨Ao29, co29, eo29⟩ := Kd.R_slice HO232.out
                (first | subst eo29 | (injection eo29 with f1_ f2_ f3_; have f4_ := f1_.symm; have f5_ := f3_.symm; clear f1_ f2_ f3_; subst f4_; subst f5_))
                refine hK.out _ _ ⟨(blk_cell BK226.out 0).trans rfl, (blk_cell BK226.out 1).trans rfl⟩ (fun hHeld => ?_)
                clear hK K
                refine norm_ (a' := ?_) ?_ ?_
                rotate_left
                · show Act.put _ (some 17) _ = _
                  simp only [Act.put, List.setIfInBounds_toArray, List.set_cons_zero, List.set_cons_succ, i64_w, i32_w]
                  rfl
                refine one_ (i := 5) (N := some 18) #[true, true, true, true, true, true, false, false, false, false, false, false, false, false, false, false, false, false, false, false, false, false, false, false, false, false, false, false, false, false, false, false, false, false] rfl rfl (one_of HT_.out (by kernel_rfl)) (by decide) (fun K hK => ?_)
                refine goes_ Try.func21 (by kernel_rfl) rfl #[.slice Ao28 t227.length co28, .slice Ao29 y230.length co29] (by rfl) rfl rfl zm ?_
                with_reducible refine (corebankref14_Same.calls k _ _ t227 _ _ y230 true _ ?side1 ?side2 ?side3 ?side4 A3.out).mono ?_
                (case side1 => repeat (first | exact (Kd.R_reads' HO229.out).2.2 | (with_reducible refine Kd.C_alloc ?_ _) | (with_reducible refine Kd.C_drewN ?_ _) | (with_reducible refine Kd.C_drew ?_)))
                (case side2 => exact (Kd.R_reads' HO229.out).2.1)
                (case side3 => repeat (first | exact (Kd.R_reads' HO232.out).2.2 | (with_reducible refine Kd.C_alloc ?_ _) | (with_reducible refine Kd.C_drewN ?_ _) | (with_reducible refine Kd.C_drew ?_)))
                (case side4 => exact (Kd.R_reads' HO232.out).2.1)
                rintro e w' ⟨rfl, ⟨nd, rfl⟩⟩
                refine ⟨_, rfl, ?_⟩
                refine hK.out _ _ ⟨(blk_cell BK226.out 0).trans rfl, (blk_cell BK226.out 1).trans rfl⟩ (fun hHeld => ?_)
                clear hK K
                refine norm_ (a' := ?_) ?_ ?_
                rotate_left
                · show Act.put _ (some 18) _ = _
                  simp only [Act.put, List.setIfInBounds_toArray, List.set_cons_zero, List.set_cons_succ, i64_w, i32_w]
                  rfl
                refine pz (i := 6) (N := some 19) #[true, true, true, true, true, true, true, false, false, false, false, false, false, false, false, false, false, false, false, false, false, false, false, false, false, false, false, false, false, false, false, false, false, false] rfl rfl (any_of HT_.out (by kernel_rfl)) (fun _ _ _ h => h) ?_
                refine pz (i := 7) (N := some 20) #[true, true, true, true, true, true, true, true, false, false, false, false, false, false, false, false, false, false, false, false, false, false, false, false, false, false, false, false, false, false, false, false, false, false] rfl rfl (any_of HT_.out (by kernel_rfl)) (fun _ _ _ h => h) ?_
                refine pz (i := 9) (N := some 22) #[true, true, true, true, true, true, true, true, false, true, false, false, false, false, false, false, false, false, false, false, false, false, false, false, false, false, false, false, false, false, false, false, false, false] rfl rfl (any_of HT_.out (by kernel_rfl)) (fun _ _ _ h => h) ?_
                refine two_ (i := 8) (j := 10) (Ni := some 21) (Nj := some 23) #[true, true, true, true, true, true, true, true, true, true, false, false, false, false, false, false, false, false, false, false, false, false, false, false, false, false, false, false, false, false, false, false, false, false] #[true, true, true, true, true, true, true, true, false, true, true, false, false, false, false, false, false, false, false, false, false, false, false, false, false, false, false, false, false, false, false, false, false, false] rfl rfl rfl rfl (two_of HT_.out (by kernel_rfl)) (by decide) (by decide) (fun K hK => ?_) (fun K hK => ?_)
                · skip
                  refine goes_ Try.func22 (by kernel_rfl) rfl #[.slice Ao22 y217.length co22, .bool false, .int .i64 1000] (by rfl) rfl rfl zm ?_
                  with_reducible refine (tier_Slices.calls k _ _ y217 false 1000 t234 _ ?side1 ?side2 A5.out).mono ?_
                  (case side1 => repeat (first | exact (Kd.R_reads' HO219.out).2.2 | (with_reducible refine Kd.C_alloc ?_ _) | (with_reducible refine Kd.C_drewN ?_ _) | (with_reducible refine Kd.C_drew ?_)))
                  (case side2 => exact (Kd.R_reads' HO219.out).2.1)
                  rintro e w30 ⟨v235, rfl, ho0, hb⟩
                  refine ⟨_, rfl, ?_⟩
                  have HO236 := Aside0.mk (Kd.R_lower (Kd.R_new' (Kd.R_new' (Kd.R_new' ho0 (Kd.R_lt (kq HO222))) (Kd.R_lt (kq HO229))) (Kd.R_lt (kq HO232))) (below_size (hq HB)))
                  replace HO219 := kb HO219 hb
                  replace HO222 := Aside0.mk (Kd.R_elder' (kq HO222) (Kd.R_base ho0) hb)
                  replace HO229 := Aside0.mk (Kd.R_elder' (kq HO229) (Kd.R_base ho0) hb)
                  replace HO232 := Aside0.mk (Kd.R_elder' (kq HO232) (Kd.R_base ho0) hb)
                  replace BK226 := bb BK226 hb
                  replace HB := bs HB hb
                  (try clear hb)
                  (try clear hb2)
                  (try clear hk)
                  (try clear hi)
                  (try clear ho0)
                  refine hK.out _ _ ⟨(blk_cell BK226.out 0).trans rfl, (blk_cell BK226.out 1).trans rfl⟩ (fun hHeld => ?_)
                  clear hK K
                  refine norm_ (a' := ?_) ?_ ?_
                  rotate_left
                  · show Act.put _ (some 21) _ = _
                    simp only [Act.put, List.setIfInBounds_toArray, List.set_cons_zero, List.set_cons_succ, i64_w, i32_w]
                    rfl
                  refine one_ (i := 10) (N := some 23) #[true, true, true, true, true, true, true, true, true, true, true, false, false, false, false, false, false, false, false, false, false, false, false, false, false, false, false, false, false, false, false, false, false, false] rfl rfl (one_of HT_.out (by kernel_rfl)) (by decide) (fun K hK => ?_)
                  refine Kd.R_lit_step k43 _ 43 ?hg (N := 23) ?hd (xs := ([(⟨1000, 20000⟩ : S43)] : List (S43))) (inner := [.int .i64 1000, .int .i64 20000]) (ok := fun _ => True) (okp := fun _ => True) ?hr ?hp (fun _ hk => hk) trivial (Below.refl _ _) (Nat.le_refl _) (by simp) ?_; (case hd => rfl); (case hg => rfl); (case hr => first | (go_simp; done) | (go_simp; rfl)); (case hp => exact (Reps.c2 (show Kd.M k43 _ _ _ (⟨1000, 20000⟩ : S43) [.int .i64 1000, .int .i64 20000] from (k43_mkM _ _ _ (⟨1000, 20000⟩ : S43) )) (Reps.none _ _)))
                  intro v238 w31 ho32 hb hg_ hnew_
                  clear hg_ hnew_
                  (first | rw [← Ny237.out] at ho32 | (simp only [Int.reduceToNat] at ho32; rw [← Ny237.out] at ho32))
                  have HO239 := Aside0.mk (Kd.R_lower (Kd.R_new' (Kd.R_new' (Kd.R_new' (Kd.R_new' ho32 (Kd.R_lt (kq HO222))) (Kd.R_lt (kq HO229))) (Kd.R_lt (kq HO232))) (Kd.R_lt (kq HO236))) (below_size (hq HB)))
                  replace HO219 := kb HO219 hb
                  replace HO222 := Aside0.mk (Kd.R_elder' (kq HO222) (Kd.R_base ho32) hb)
                  replace HO229 := Aside0.mk (Kd.R_elder' (kq HO229) (Kd.R_base ho32) hb)
                  replace HO232 := Aside0.mk (Kd.R_elder' (kq HO232) (Kd.R_base ho32) hb)
                  replace HO236 := Aside0.mk (Kd.R_elder' (kq HO236) (Kd.R_base ho32) hb)
                  replace BK226 := bb BK226 hb
                  replace HB := bs HB hb
                  clear hb ho32
                  refine hK.out _ _ ⟨(blk_cell BK226.out 0).trans rfl, (blk_cell BK226.out 1).trans rfl⟩ (fun hHeld => ?_)
                  clear hK K
                  refine norm_ (a' := ?_) ?_ ?_
                  rotate_left
                  · show Act.put _ (some 23) _ = _
                    simp only [Act.put, List.setIfInBounds_toArray, List.set_cons_zero, List.set_cons_succ, i64_w, i32_w]
                    rfl
                  exact norm_ (by simp only [putAll, Act.put, List.setIfInBounds_toArray, List.set_cons_zero, List.set_cons_succ]) (hCont (.slice Ao28 t227.length co28, .slice Ao29 y230.length co29, v235, v238) _ ⟨hHeld, (kq HO219), (by (with_reducible repeat (first | apply Kd.R_alloc | apply Kd.R_drewN | apply Kd.R_drew)); exact Kd.R_mono HO222.out (fun _ hk => ⟨hk.1.1.1.2, ⟨hk.1.1.2, ⟨hk.1.2, hk.2⟩⟩⟩)), (by (with_reducible repeat (first | apply Kd.R_alloc | apply Kd.R_drewN | apply Kd.R_drew)); exact Kd.R_mono HO229.out (fun _ hk => ⟨hk.1.1.1.2, ⟨hk.1.1.2, ⟨hk.1.2, hk.2⟩⟩⟩)), (by (with_reducible repeat (first | apply Kd.R_alloc | apply Kd.R_drewN | apply Kd.R_drew)); exact Kd.R_mono HO232.out (fun _ hk => ⟨hk.1.1.1.2, ⟨hk.1.1.2, ⟨hk.1.2, hk.2⟩⟩⟩)), (by (with_reducible repeat (first | apply Kd.R_alloc | apply Kd.R_drewN | apply Kd.R_drew)); exact Kd.R_mono HO236.out (fun _ hk => ⟨hk.1.1.1.2, ⟨hk.1.1.2, ⟨hk.1.2, hk.2⟩⟩⟩)), (by (with_reducible repeat (first | apply Kd.R_alloc | apply Kd.R_drewN | apply Kd.R_drew)); exact Kd.R_mono HO239.out (fun _ hk => ⟨hk.1.1.1.2, ⟨hk.1.1.2, ⟨hk.1.2, hk.2⟩⟩⟩)), (bq BK226), (hq HB)⟩)
                · skip
                  refine Kd.R_lit_step k43 _ 43 ?hg (N := 23) ?hd (xs := ([(⟨1000, 20000⟩ : S43)] : List (S43))) (inner := [.int .i64 1000, .int .i64 20000]) (ok := fun _ => True) (okp := fun _ => True) ?hr ?hp (fun _ hk => hk) trivial (Below.refl _ _) (Nat.le_refl _) (by simp) ?_; (case hd => rfl); (case hg => rfl); (case hr => first | (go_simp; done) | (go_simp; rfl)); (case hp => exact (Reps.c2 (show Kd.M k43 _ _ _ (⟨1000, 20000⟩ : S43) [.int .i64 1000, .int .i64 20000] from (k43_mkM _ _ _ (⟨1000, 20000⟩ : S43) )) (Reps.none _ _)))
                  intro v238 w30 ho31 hb hg_ hnew_
                  clear hg_ hnew_
                  (first | rw [← Ny237.out] at ho31 | (simp only [Int.reduceToNat] at ho31; rw [← Ny237.out] at ho31))
                  have HO239 := Aside0.mk (Kd.R_lower (Kd.R_new' (Kd.R_new' (Kd.R_new' ho31 (Kd.R_lt (kq HO222))) (Kd.R_lt (kq HO229))) (Kd.R_lt (kq HO232))) (below_size (hq HB)))
                  replace HO219 := kb HO219 hb
                  replace HO222 := Aside0.mk (Kd.R_elder' (kq HO222) (Kd.R_base ho31) hb)
                  replace HO229 := Aside0.mk (Kd.R_elder' (kq HO229) (Kd.R_base ho31) hb)
                  replace HO232 := Aside0.mk (Kd.R_elder' (kq HO232) (Kd.R_base ho31) hb)
                  replace BK226 := bb BK226 hb
                  replace HB := bs HB hb
                  clear hb ho31
                  refine hK.out _ _ ⟨(blk_cell BK226.out 0).trans rfl, (blk_cell BK226.out 1).trans rfl⟩ (fun hHeld => ?_)
                  clear hK K
                  refine norm_ (a' := ?_) ?_ ?_
                  rotate_left
                  · show Act.put _ (some 23) _ = _
                    simp only [Act.put, List.setIfInBounds_toArray, List.set_cons_zero, List.set_cons_succ, i64_w, i32_w]
                    rfl
                  refine one_ (i := 8) (N := some 21) #[true, true, true, true, true, true, true, true, true, true, true, false, false, false, false, false, false, false, false, false, false, false, false, false, false, false, false, false, false, false, false, false, false, false] rfl rfl (one_of HT_.out (by kernel_rfl)) (by decide) (fun K hK => ?_)
                  refine goes_ Try.func22 (by kernel_rfl) rfl #[.slice Ao22 y217.length co22, .bool false, .int .i64 1000] (by rfl) rfl rfl zm ?_
                  with_reducible refine (tier_Slices.calls k _ _ y217 false 1000 t234 _ ?side1 ?side2 A5.out).mono ?_
                  (case side1 => repeat (first | exact (Kd.R_reads' HO219.out).2.2 | (with_reducible refine Kd.C_alloc ?_ _) | (with_reducible refine Kd.C_drewN ?_ _) | (with_reducible refine Kd.C_drew ?_)))
                  (case side2 => exact (Kd.R_reads' HO219.out).2.1)
                  rintro e w32 ⟨v235, rfl, ho0, hb⟩
                  refine ⟨_, rfl, ?_⟩
                  have HO236 := Aside0.mk (Kd.R_lower (Kd.R_new' (Kd.R_new' (Kd.R_new' (Kd.R_new' ho0 (Kd.R_lt (kq HO222))) (Kd.R_lt (kq HO229))) (Kd.R_lt (kq HO232))) (Kd.R_lt (kq HO239))) (below_size (hq HB)))
                  replace HO219 := kb HO219 hb
                  replace HO222 := Aside0.mk (Kd.R_elder' (kq HO222) (Kd.R_base ho0) hb)
                  replace HO229 := Aside0.mk (Kd.R_elder' (kq HO229) (Kd.R_base ho0) hb)
                  replace HO232 := Aside0.mk (Kd.R_elder' (kq HO232) (Kd.R_base ho0) hb)
                  replace HO239 := Aside0.mk (Kd.R_elder' (kq HO239) (Kd.R_base ho0) hb)
                  replace BK226 := bb BK226 hb
                  replace HB := bs HB hb
                  (try clear hb)
                  (try clear hb2)
                  (try clear hk)
                  (try clear hi)
                  (try clear ho0)
                  refine hK.out _ _ ⟨(blk_cell BK226.out 0).trans rfl, (blk_cell BK226.out 1).trans rfl⟩ (fun hHeld => ?_)
                  clear hK K
                  refine norm_ (a' := ?_) ?_ ?_
                  rotate_left
                  · show Act.put _ (some 21) _ = _
                    simp only [Act.put, List.setIfInBounds_toArray, List.set_cons_zero, List.set_cons_succ, i64_w, i32_w]
                    rfl
                  exact norm_ (by simp only [putAll, Act.put, List.setIfInBounds_toArray, List.set_cons_zero, List.set_cons_succ]) (hCont (.slice Ao28 t227.length co28, .slice Ao29 y230.length co29, v235, v238) _ ⟨hHeld, (kq HO219), (by (with_reducible repeat (first | apply Kd.R_alloc | apply Kd.R_drewN | apply Kd.R_drew)); exact Kd.R_mono HO222.out (fun _ hk => ⟨hk.1.1.1.2, ⟨hk.1.1.2, ⟨hk.2, hk.1.2⟩⟩⟩)), (by (with_reducible repeat (first | apply Kd.R_alloc | apply Kd.R_drewN | apply Kd.R_drew)); exact Kd.R_mono HO229.out (fun _ hk => ⟨hk.1.1.1.2, ⟨hk.1.1.2, ⟨hk.2, hk.1.2⟩⟩⟩)), (by (with_reducible repeat (first | apply Kd.R_alloc | apply Kd.R_drewN | apply Kd.R_drew)); exact Kd.R_mono HO232.out (fun _ hk => ⟨hk.1.1.1.2, ⟨hk.1.1.2, ⟨hk.2, hk.1.2⟩⟩⟩)), (by (with_reducible repeat (first | apply Kd.R_alloc | apply Kd.R_drewN | apply Kd.R_drew)); exact Kd.R_mono HO236.out (fun _ hk => ⟨hk.1.1.1.2, ⟨hk.1.1.2, ⟨hk.1.2, hk.2⟩⟩⟩)), (by (with_reducible repeat (first | apply Kd.R_alloc | apply Kd.R_drewN | apply Kd.R_drew)); exact Kd.R_mono HO239.out (fun _ hk => ⟨hk.1.1.1.2, ⟨hk.1.1.2, ⟨hk.1.2, hk.2⟩⟩⟩)), (bq BK226), (hq HB)⟩)
              · skip
                refine Kd.R_lit_step k43 _ 43 ?hg (N := 17) ?hd (xs := ([(⟨1000, 10000⟩ : S43), (⟨500, 20000⟩ : S43)] : List (S43))) (inner := [.int .i64 1000, .int .i64 10000, .int .i64 500, .int .i64 20000]) (ok := fun _ => True) (okp := fun _ => True) ?hr ?hp (fun _ hk => hk) trivial (Below.refl _ _) (Nat.le_refl _) (by simp) ?_; (case hd => rfl); (case hg => rfl); (case hr => first | (go_simp; done) | (go_simp; rfl)); (case hp => exact (Reps.c2 (show Kd.M k43 _ _ _ (⟨1000, 10000⟩ : S43) [.int .i64 1000, .int .i64 10000] from (k43_mkM _ _ _ (⟨1000, 10000⟩ : S43) )) (Reps.c2 (show Kd.M k43 _ _ _ (⟨500, 20000⟩ : S43) [.int .i64 500, .int .i64 20000] from (k43_mkM _ _ _ (⟨500, 20000⟩ : S43) )) (Reps.none _ _))))
                intro v231 w25 ho26 hb hg_ hnew_
                clear hg_ hnew_
                (first | rw [← Ny230.out] at ho26 | (simp only [Int.reduceToNat] at ho26; rw [← Ny230.out] at ho26))
                have HO232 := Aside0.mk (Kd.R_lower (Kd.R_new' ho26 (Kd.R_lt (kq HO222))) (below_size (hq HB)))
                replace HO219 := kb HO219 hb
                replace HO222 := Aside0.mk (Kd.R_elder' (kq HO222) (Kd.R_base ho26) hb)
                replace BK226 := bb BK226 hb
                replace HB := bs HB hb
                clear hb ho26
                refine hK.out _ _ ⟨(blk_cell BK226.out 0).trans rfl, (blk_cell BK226.out 1).trans rfl⟩ (fun hHeld => ?_)
                clear hK K
                refine norm_ (a' := ?_) ?_ ?_
                rotate_left
                · show Act.put _ (some 17) _ = _
                  simp only [Act.put, List.setIfInBounds_toArray, List.set_cons_zero, List.set_cons_succ, i64_w, i32_w]
                  rfl
                refine one_ (i := 1) (N := some 14) #[true, true, true, true, true, false, false, false, false, false, false, false, false, false, false, false, false, false, false, false, false, false, false, false, false, false, false, false, false, false, false, false, false, false] rfl rfl (one_of HT_.out (by kernel_rfl)) (by decide) (fun K hK => ?_)
                refine goes_ Try.func22 (by kernel_rfl) rfl #[.slice Ao22 y217.length co22, .bool true, .int .i64 (-1500)] (by rfl) rfl rfl zm ?_
                with_reducible refine (tier_Slices.calls k _ _ y217 true (-1500) t227 _ ?side1 ?side2 A2.out).mono ?_
                (case side1 => repeat (first | exact (Kd.R_reads' HO219.out).2.2 | (with_reducible refine Kd.C_alloc ?_ _) | (with_reducible refine Kd.C_drewN ?_ _) | (with_reducible refine Kd.C_drew ?_)))
                (case side2 => exact (Kd.R_reads' HO219.out).2.1)
                rintro e w27 ⟨v228, rfl, ho0, hb⟩
                refine ⟨_, rfl, ?_⟩
                have HO229 := Aside0.mk (Kd.R_lower (Kd.R_new' (Kd.R_new' ho0 (Kd.R_lt (kq HO222))) (Kd.R_lt (kq HO232))) (below_size (hq HB)))
                replace HO219 := kb HO219 hb
                replace HO222 := Aside0.mk (Kd.R_elder' (kq HO222) (Kd.R_base ho0) hb)
                replace HO232 := Aside0.mk (Kd.R_elder' (kq HO232) (Kd.R_base ho0) hb)
                replace BK226 := bb BK226 hb
                replace HB := bs HB hb
                (try clear hb)
                (try clear hb2)
                (try clear hk)
                (try clear hi)
                (try clear ho0)
                obtain ⟨Ao28, co28, eo28⟩ := Kd.R_slice HO229.out
                (first | subst eo28 | (injection eo28 with f1_ f2_ f3_; have f4_ := f1_.symm; have f5_ := f3_.symm; clear f1_ f2_ f3_; subst f4_; subst f5_))
                obtain ⟨Ao29, co29, eo29⟩ := Kd.R_slice HO232.out
                (first | subst eo29 | (injection eo29 with f1_ f2_ f3_; have f4_ := f1_.symm; have f5_ := f3_.symm; clear f1_ f2_ f3_; subst f4_; subst f5_))
                refine hK.out _ _ ⟨(blk_cell BK226.out 0).trans rfl, (blk_cell BK226.out 1).trans rfl⟩ (fun hHeld => ?_)
                clear hK K
                refine norm_ (a' := ?_) ?_ ?_
                rotate_left
                · show Act.put _ (some 14) _ = _
                  simp only [Act.put, List.setIfInBounds_toArray, List.set_cons_zero, List.set_cons_succ, i64_w, i32_w]
                  rfl
                refine one_ (i := 5) (N := some 18) #[true, true, true, true, true, true, false, false, false, false, false, false, false, false, false, false, false, false, false, false, false, false, false, false, false, false, false, false, false, false, false, false, false, false] rfl rfl (one_of HT_.out (by kernel_rfl)) (by decide) (fun K hK => ?_)
                refine goes_ Try.func21 (by kernel_rfl) rfl #[.slice Ao28 t227.length co28, .slice Ao29 y230.length co29] (by rfl) rfl rfl zm ?_
                with_reducible refine (corebankref14_Same.calls k _ _ t227 _ _ y230 true _ ?side1 ?side2 ?side3 ?side4 A3.out).mono ?_
                (case side1 => repeat (first | exact (Kd.R_reads' HO229.out).2.2 | (with_reducible refine Kd.C_alloc ?_ _) | (with_reducible refine Kd.C_drewN ?_ _) | (with_reducible refine Kd.C_drew ?_)))
                (case side2 => exact (Kd.R_reads' HO229.out).2.1)
                (case side3 => repeat (first | exact (Kd.R_reads' HO232.out).2.2 | (with_reducible refine Kd.C_alloc ?_ _) | (with_reducible refine Kd.C_drewN ?_ _) | (with_reducible refine Kd.C_drew ?_)))
                (case side4 => exact (Kd.R_reads' HO232.out).2.1)
                rintro e w' ⟨rfl, ⟨nd, rfl⟩⟩
                refine ⟨_, rfl, ?_⟩
                refine hK.out _ _ ⟨(blk_cell BK226.out 0).trans rfl, (blk_cell BK226.out 1).trans rfl⟩ (fun hHeld => ?_)
                clear hK K
                refine norm_ (a' := ?_) ?_ ?_
                rotate_left
                · show Act.put _ (some 18) _ = _
                  simp only [Act.put, List.setIfInBounds_toArray, List.set_cons_zero, List.set_cons_succ, i64_w, i32_w]
                  rfl
                refine pz (i := 6) (N := some 19) #[true, true, true, true, true, true, true, false, false, false, false, false, false, false, false, false, false, false, false, false, false, false, false, false, false, false, false, false, false, false, false, false, false, false] rfl rfl (any_of HT_.out (by kernel_rfl)) (fun _ _ _ h => h) ?_
                refine pz (i := 7) (N := some 20) #[true, true, true, true, true, true, true, true, false, false, false, false, false, false, false, false, false, false, false, false, false, false, false, false, false, false, false, false, false, false, false, false, false, false] rfl rfl (any_of HT_.out (by kernel_rfl)) (fun _ _ _ h => h) ?_
                refine pz (i := 9) (N := some 22) #[true, true, true, true, true, true, true, true, false, true, false, false, false, false, false, false, false, false, false, false, false, false, false, false, false, false, false, false, false, false, false, false, false, false] rfl rfl (any_of HT_.out (by kernel_rfl)) (fun _ _ _ h => h) ?_
                refine two_ (i := 8) (j := 10) (Ni := some 21) (Nj := some 23) #[true, true, true, true, true, true, true, true, true, true, false, false, false, false, false, false, false, false, false, false, false, false, false, false, false, false, false, false, false, false, false, false, false, false] #[true, true, true, true, true, true, true, true, false, true, true, false, false, false, false, false, false, false, false, false, false, false, false, false, false, false, false, false, false, false, false, false, false, false] rfl rfl rfl rfl (two_of HT_.out (by kernel_rfl)) (by decide) (by decide) (fun K hK => ?_) (fun K hK => ?_)
                · skip
                  refine goes_ Try.func22 (by kernel_rfl) rfl #[.slice Ao22 y217.length co22, .bool false, .int .i64 1000] (by rfl) rfl rfl zm ?_
                  with_reducible refine (tier_Slices.calls k _ _ y217 false 1000 t234 _ ?side1 ?side2 A5.out).mono ?_
                  (case side1 => repeat (first | exact (Kd.R_reads' HO219.out).2.2 | (with_reducible refine Kd.C_alloc ?_ _) | (with_reducible refine Kd.C_drewN ?_ _) | (with_reducible refine Kd.C_drew ?_)))
                  (case side2 => exact (Kd.R_reads' HO219.out).2.1)
                  rintro e w30 ⟨v235, rfl, ho0, hb⟩
                  refine ⟨_, rfl, ?_⟩
                  have HO236 := Aside0.mk (Kd.R_lower (Kd.R_new' (Kd.R_new' (Kd.R_new' ho0 (Kd.R_lt (kq HO222))) (Kd.R_lt (kq HO232))) (Kd.R_lt (kq HO229))) (below_size (hq HB)))
                  replace HO219 := kb HO219 hb
                  replace HO222 := Aside0.mk (Kd.R_elder' (kq HO222) (Kd.R_base ho0) hb)
                  replace HO232 := Aside0.mk (Kd.R_elder' (kq HO232) (Kd.R_base ho0) hb)
                  replace HO229 := Aside0.mk (Kd.R_elder' (kq HO229) (Kd.R_base ho0) hb)
                  replace BK226 := bb BK226 hb
                  replace HB := bs HB hb
                  (try clear hb)
                  (try clear hb2)
                  (try clear hk)
                  (try clear hi)
                  (try clear ho0)
                  refine hK.out _ _ ⟨(blk_cell BK226.out 0).trans rfl, (blk_cell BK226.out 1).trans rfl⟩ (fun hHeld => ?_)
                  clear hK K
                  refine norm_ (a' := ?_) ?_ ?_
                  rotate_left
                  · show Act.put _ (some 21) _ = _
                    simp only [Act.put, List.setIfInBounds_toArray, List.set_cons_zero, List.set_cons_succ, i64_w, i32_w]
                    rfl
                  refine one_ (i := 10) (N := some 23) #[true, true, true, true, true, true, true, true, true, true, true, false, false, false, false, false, false, false, false, false, false, false, false, false, false, false, false, false, false, false, false, false, false, false] rfl rfl (one_of HT_.out (by kernel_rfl)) (by decide) (fun K hK => ?_)
                  refine Kd.R_lit_step k43 _ 43 ?hg (N := 23) ?hd (xs := ([(⟨1000, 20000⟩ : S43)] : List (S43))) (inner := [.int .i64 1000, .int .i64 20000]) (ok := fun _ => True) (okp := fun _ => True) ?hr ?hp (fun _ hk => hk) trivial (Below.refl _ _) (Nat.le_refl _) (by simp) ?_; (case hd => rfl); (case hg => rfl); (case hr => first | (go_simp; done) | (go_simp; rfl)); (case hp => exact (Reps.c2 (show Kd.M k43 _ _ _ (⟨1000, 20000⟩ : S43) [.int .i64 1000, .int .i64 20000] from (k43_mkM _ _ _ (⟨1000, 20000⟩ : S43) )) (Reps.none _ _)))
                  intro v238 w31 ho32 hb hg_ hnew_
                  clear hg_ hnew_
                  (first | rw [← Ny237.out] at ho32 | (simp only [Int.reduceToNat] at ho32; rw [← Ny237.out] at ho32))
                  have HO239 := Aside0.mk (Kd.R_lower (Kd.R_new' (Kd.R_new' (Kd.R_new' (Kd.R_new' ho32 (Kd.R_lt (kq HO222))) (Kd.R_lt (kq HO232))) (Kd.R_lt (kq HO229))) (Kd.R_lt (kq HO236))) (below_size (hq HB)))
                  replace HO219 := kb HO219 hb
                  replace HO222 := Aside0.mk (Kd.R_elder' (kq HO222) (Kd.R_base ho32) hb)
                  replace HO232 := Aside0.mk (Kd.R_elder' (kq HO232) (Kd.R_base ho32) hb)
                  replace HO229 := Aside0.mk (Kd.R_elder' (kq HO229) (Kd.R_base ho32) hb)
                  replace HO236 := Aside0.mk (Kd.R_elder' (kq HO236) (Kd.R_base ho32) hb)
                  replace BK226 := bb BK226 hb
                  replace HB := bs HB hb
                  clear hb ho32
                  refine hK.out _ _ ⟨(blk_cell BK226.out 0).trans rfl, (blk_cell BK226.out 1).trans rfl⟩ (fun hHeld => ?_)
                  clear hK K
                  refine norm_ (a' := ?_) ?_ ?_
                  rotate_left
                  · show Act.put _ (some 23) _ = _
                    simp only [Act.put, List.setIfInBounds_toArray, List.set_cons_zero, List.set_cons_succ, i64_w, i32_w]
                    rfl
                  exact norm_ (by simp only [putAll, Act.put, List.setIfInBounds_toArray, List.set_cons_zero, List.set_cons_succ]) (hCont (.slice Ao28 t227.length co28, .slice Ao29 y230.length co29, v235, v238) _ ⟨hHeld, (kq HO219), (by (with_reducible repeat (first | apply Kd.R_alloc | apply Kd.R_drewN | apply Kd.R_drew)); exact Kd.R_mono HO222.out (fun _ hk => ⟨hk.1.1.2, ⟨hk.1.1.1.2, ⟨hk.1.2, hk.2⟩⟩⟩)), (by (with_reducible repeat (first | apply Kd.R_alloc | apply Kd.R_drewN | apply Kd.R_drew)); exact Kd.R_mono HO229.out (fun _ hk => ⟨hk.1.1.1.2, ⟨hk.1.1.2, ⟨hk.1.2, hk.2⟩⟩⟩)), (by (with_reducible repeat (first | apply Kd.R_alloc | apply Kd.R_drewN | apply Kd.R_drew)); exact Kd.R_mono HO232.out (fun _ hk => ⟨hk.1.1.1.2, ⟨hk.1.1.2, ⟨hk.1.2, hk.2⟩⟩⟩)), (by (with_reducible repeat (first | apply Kd.R_alloc | apply Kd.R_drewN | apply Kd.R_drew)); exact Kd.R_mono HO236.out (fun _ hk => ⟨hk.1.1.1.2, ⟨hk.1.2, ⟨hk.1.1.2, hk.2⟩⟩⟩)), (by (with_reducible repeat (first | apply Kd.R_alloc | apply Kd.R_drewN | apply Kd.R_drew)); exact Kd.R_mono HO239.out (fun _ hk => ⟨hk.1.1.1.2, ⟨hk.1.2, ⟨hk.1.1.2, hk.2⟩⟩⟩)), (bq BK226), (hq HB)⟩)
                · skip
                  refine Kd.R_lit_step k43 _ 43 ?hg (N := 23) ?hd (xs := ([(⟨1000, 20000⟩ : S43)] : List (S43))) (inner := [.int .i64 1000, .int .i64 20000]) (ok := fun _ => True) (okp := fun _ => True) ?hr ?hp (fun _ hk => hk) trivial (Below.refl _ _) (Nat.le_refl _) (by simp) ?_; (case hd => rfl); (case hg => rfl); (case hr => first | (go_simp; done) | (go_simp; rfl)); (case hp => exact (Reps.c2 (show Kd.M k43 _ _ _ (⟨1000, 20000⟩ : S43) [.int .i64 1000, .int .i64 20000] from (k43_mkM _ _ _ (⟨1000, 20000⟩ : S43) )) (Reps.none _ _)))
                  intro v238 w30 ho31 hb hg_ hnew_
                  clear hg_ hnew_
                  (first | rw [← Ny237.out] at ho31 | (simp only [Int.reduceToNat] at ho31; rw [← Ny237.out] at ho31))
                  have HO239 := Aside0.mk (Kd.R_lower (Kd.R_new' (Kd.R_new' (Kd.R_new' ho31 (Kd.R_lt (kq HO222))) (Kd.R_lt (kq HO232))) (Kd.R_lt (kq HO229))) (below_size (hq HB)))
                  replace HO219 := kb HO219 hb
                  replace HO222 := Aside0.mk (Kd.R_elder' (kq HO222) (Kd.R_base ho31) hb)
                  replace HO232 := Aside0.mk (Kd.R_elder' (kq HO232) (Kd.R_base ho31) hb)
                  replace HO229 := Aside0.mk (Kd.R_elder' (kq HO229) (Kd.R_base ho31) hb)
                  replace BK226 := bb BK226 hb
                  replace HB := bs HB hb
                  clear hb ho31
                  refine hK.out _ _ ⟨(blk_cell BK226.out 0).trans rfl, (blk_cell BK226.out 1).trans rfl⟩ (fun hHeld => ?_)
                  clear hK K
                  refine norm_ (a' := ?_) ?_ ?_
                  rotate_left
                  · show Act.put _ (some 23) _ = _
                    simp only [Act.put, List.setIfInBounds_toArray, List.set_cons_zero, List.set_cons_succ, i64_w, i32_w]
                    rfl
                  refine one_ (i := 8) (N := some 21) #[true, true, true, true, true, true, true, true, true, true, true, false, false, false, false, false, false, false, false, false, false, false, false, false, false, false, false, false, false, false, false, false, false, false] rfl rfl (one_of HT_.out (by kernel_rfl)) (by decide) (fun K hK => ?_)
                  refine goes_ Try.func22 (by kernel_rfl) rfl #[.slice Ao22 y217.length co22, .bool false, .int .i64 1000] (by rfl) rfl rfl zm ?_
                  with_reducible refine (tier_Slices.calls k _ _ y217 false 1000 t234 _ ?side1 ?side2 A5.out).mono ?_
                  (case side1 => repeat (first | exact (Kd.R_reads' HO219.out).2.2 | (with_reducible refine Kd.C_alloc ?_ _) | (with_reducible refine Kd.C_drewN ?_ _) | (with_reducible refine Kd.C_drew ?_)))
                  (case side2 => exact (Kd.R_reads' HO219.out).2.1)
                  rintro e w32 ⟨v235, rfl, ho0, hb⟩
                  refine ⟨_, rfl, ?_⟩
                  have HO236 := Aside0.mk (Kd.R_lower (Kd.R_new' (Kd.R_new' (Kd.R_new' (Kd.R_new' ho0 (Kd.R_lt (kq HO222))) (Kd.R_lt (kq HO232))) (Kd.R_lt (kq HO229))) (Kd.R_lt (kq HO239))) (below_size (hq HB)))
                  replace HO219 := kb HO219 hb
                  replace HO222 := Aside0.mk (Kd.R_elder' (kq HO222) (Kd.R_base ho0) hb)
                  replace HO232 := Aside0.mk (Kd.R_elder' (kq HO232) (Kd.R_base ho0) hb)
                  replace HO229 := Aside0.mk (Kd.R_elder' (kq HO229) (Kd.R_base ho0) hb)
                  replace HO239 := Aside0.mk (Kd.R_elder' (kq HO239) (Kd.R_base ho0) hb)
                  replace BK226 := bb BK226 hb
                  replace HB := bs HB hb
                  (try clear hb)
                  (try clear hb2)
                  (try clear hk)
                  (try clear hi)
                  (try clear ho0)
                  refine hK.out _ _ ⟨(blk_cell BK226.out 0).trans rfl, (blk_cell BK226.out 1).trans rfl⟩ (fun hHeld => ?_)
                  clear hK K
                  refine norm_ (a' := ?_) ?_ ?_
                  rotate_left
                  · show Act.put _ (some 21) _ = _
                    simp only [Act.put, List.setIfInBounds_toArray, List.set_cons_zero, List.set_cons_succ, i64_w, i32_w]
                    rfl
                  exact norm_ (by simp only [putAll, Act.put, List.setIfInBounds_toArray, List.set_cons_zero, List.set_cons_succ]) (hCont (.slice Ao28 t227.length co28, .slice Ao29 y230.length co29, v235, v238) _ ⟨hHeld, (kq HO219), (by (with_reducible repeat (first | apply Kd.R_alloc | apply Kd.R_drewN | apply Kd.R_drew)); exact Kd.R_mono HO222.out (fun _ hk => ⟨hk.1.1.2, ⟨hk.1.1.1.2, ⟨hk.2, hk.1.2⟩⟩⟩)), (by (with_reducible repeat (first | apply Kd.R_alloc | apply Kd.R_drewN | apply Kd.R_drew)); exact Kd.R_mono HO229.out (fun _ hk => ⟨hk.1.1.1.2, ⟨hk.1.1.2, ⟨hk.2, hk.1.2⟩⟩⟩)), (by (with_reducible repeat (first | apply Kd.R_alloc | apply Kd.R_drewN | apply Kd.R_drew)); exact Kd.R_mono HO232.out (fun _ hk => ⟨hk.1.1.1.2, ⟨hk.1.1.2, ⟨hk.2, hk.1.2⟩⟩⟩)), (by (with_reducible repeat (first | apply Kd.R_alloc | apply Kd.R_drewN | apply Kd.R_drew)); exact Kd.R_mono HO236.out (fun _ hk => ⟨hk.1.1.1.2, ⟨hk.1.2, ⟨hk.1.1.2, hk.2⟩⟩⟩)), (by (with_reducible repeat (first | apply Kd.R_alloc | apply Kd.R_drewN | apply Kd.R_drew)); exact Kd.R_mono HO239.out (fun _ hk => ⟨hk.1.1.1.2, ⟨hk.1.2, ⟨hk.1.1.2, hk.2⟩⟩⟩)), (bq BK226), (hq HB)⟩)
            rintro ⟨v228, v231, v235, v238⟩ w33 ⟨hS_, h0_, h1_, h2_, h3_, h4_, h5_, h6_, h7_⟩
            have HO229 : Aside0 (Kd.R k43 43 w33 w.heap.size (fun k_ => some k_ ≠ (.slice Ao18 y220.length co18 : Value).ownBlock ∧ some k_ ≠ (v231 : Value).ownBlock ∧ some k_ ≠ (v235 : Value).ownBlock ∧ some k_ ≠ (v238 : Value).ownBlock) v228 t227) := ⟨h2_⟩
            have HO232 : Aside0 (Kd.R k43 43 w33 w.heap.size (fun k_ => some k_ ≠ (.slice Ao18 y220.length co18 : Value).ownBlock ∧ some k_ ≠ (v228 : Value).ownBlock ∧ some k_ ≠ (v235 : Value).ownBlock ∧ some k_ ≠ (v238 : Value).ownBlock) v231 y230) := ⟨h3_⟩
            have HO236 : Aside0 (Kd.R k43 43 w33 w.heap.size (fun k_ => some k_ ≠ (.slice Ao18 y220.length co18 : Value).ownBlock ∧ some k_ ≠ (v228 : Value).ownBlock ∧ some k_ ≠ (v231 : Value).ownBlock ∧ some k_ ≠ (v238 : Value).ownBlock) v235 t234) := ⟨h4_⟩
            have HO239 : Aside0 (Kd.R k43 43 w33 w.heap.size (fun k_ => some k_ ≠ (.slice Ao18 y220.length co18 : Value).ownBlock ∧ some k_ ≠ (v228 : Value).ownBlock ∧ some k_ ≠ (v231 : Value).ownBlock ∧ some k_ ≠ (v235 : Value).ownBlock) v238 y237) := ⟨h5_⟩
            replace HO219 : Aside0 (Kd.R k50 50 w33 w.heap.size (fun _ => True) (.slice Ao22 y217.length co22) y217) := ⟨h0_⟩
            replace HO222 : Aside0 (Kd.R k43 43 w33 w.heap.size (fun k_ => some k_ ≠ (v228 : Value).ownBlock ∧ some k_ ≠ (v231 : Value).ownBlock ∧ some k_ ≠ (v235 : Value).ownBlock ∧ some k_ ≠ (v238 : Value).ownBlock) (.slice Ao18 y220.length co18) y220) := ⟨h1_⟩
            replace BK226 : Aside0 (w33.heap[gb226]? = some (.cells #[.int .i64 t223, .int .u64 t224] 35 (0, 0))) := ⟨h6_⟩
            replace HB : Aside0 (Below w.heap.size w w33) := ⟨h7_⟩
            clear h0_ h1_ h2_ h3_ h4_ h5_ h6_ h7_
            have hHeld : w33.cell? ⟨gb226, 0, none⟩ = some (.int .i64 t223) ∧ w33.cell? ⟨gb226, 1, none⟩ = some (.int .u64 t224) := hS_
            obtain ⟨Ao34, co34, eo34⟩ := Kd.R_slice HO236.out
            (first | subst eo34 | (injection eo34 with f1_ f2_ f3_; have f4_ := f1_.symm; have f5_ := f3_.symm; clear f1_ f2_ f3_; subst f4_; subst f5_))
            obtain ⟨Ao35, co35, eo35⟩ := Kd.R_slice HO239.out
            (first | subst eo35 | (injection eo35 with f1_ f2_ f3_; have f4_ := f1_.symm; have f5_ := f3_.symm; clear f1_ f2_ f3_; subst f4_; subst f5_))
            refine norm_ (a' := ?_) ?_ ?_
            rotate_left
            · simp only [putAll, Act.put, List.setIfInBounds_toArray, List.set_cons_zero, List.set_cons_succ]
              rfl
            refine one_ (i := 11) (N := some 24) #[true, true, true, true, true, true, true, true, true, true, true, true, false, false, false, false, false, false, false, false, false, false, false, false, false, false, false, false, false, false, false, false, false, false] rfl rfl (one_of HT_.out (by kernel_rfl)) (by decide) (fun K hK => ?_)
            refine goes_ Try.func21 (by kernel_rfl) rfl #[.slice Ao34 t234.length co34, .slice Ao35 y237.length co35] (by rfl) rfl rfl zm ?_
            with_reducible refine (corebankref14_Same.calls k _ _ t234 _ _ y237 true _ ?side1 ?side2 ?side3 ?side4 A6.out).mono ?_
            (case side1 => repeat (first | exact (Kd.R_reads' HO236.out).2.2 | (with_reducible refine Kd.C_alloc ?_ _) | (with_reducible refine Kd.C_drewN ?_ _) | (with_reducible refine Kd.C_drew ?_)))
            (case side2 => exact (Kd.R_reads' HO236.out).2.1)
            (case side3 => repeat (first | exact (Kd.R_reads' HO239.out).2.2 | (with_reducible refine Kd.C_alloc ?_ _) | (with_reducible refine Kd.C_drewN ?_ _) | (with_reducible refine Kd.C_drew ?_)))
            (case side4 => exact (Kd.R_reads' HO239.out).2.1)
            rintro e w' ⟨rfl, ⟨nd, rfl⟩⟩
            refine ⟨_, rfl, ?_⟩
            refine hK.out _ _ ⟨(blk_cell BK226.out 0).trans rfl, (blk_cell BK226.out 1).trans rfl⟩ (fun hHeld => ?_)
            clear hK K
            refine norm_ (a' := ?_) ?_ ?_
            rotate_left
            · show Act.put _ (some 24) _ = _
              simp only [Act.put, List.setIfInBounds_toArray, List.set_cons_zero, List.set_cons_succ, i64_w, i32_w]
              rfl
            refine pz (i := 12) (N := some 25) #[true, true, true, true, true, true, true, true, true, true, true, true, true, false, false, false, false, false, false, false, false, false, false, false, false, false, false, false, false, false, false, false, false, false] rfl rfl (any_of HT_.out (by kernel_rfl)) (fun _ _ _ h => h) ?_
            refine pz (i := 13) (N := some 26) #[true, true, true, true, true, true, true, true, true, true, true, true, true, true, false, false, false, false, false, false, false, false, false, false, false, false, false, false, false, false, false, false, false, false] rfl rfl (any_of HT_.out (by kernel_rfl)) (fun _ _ _ h => h) ?_
            refine pz (i := 14) (N := some 27) #[true, true, true, true, true, true, true, true, true, true, true, true, true, true, true, false, false, false, false, false, false, false, false, false, false, false, false, false, false, false, false, false, false, false] rfl rfl (any_of HT_.out (by kernel_rfl)) (fun _ _ _ h => h) ?_
            refine one_ (i := 15) (N := some 28) #[true, true, true, true, true, true, true, true, true, true, true, true, true, true, true, true, false, false, false, false, false, false, false, false, false, false, false, false, false, false, false, false, false, false] rfl rfl (one_of HT_.out (by kernel_rfl)) (by decide) (fun K hK => ?_)
            refine goes_ Try.func19 (by kernel_rfl) rfl #[.slice Ao22 y217.length co22, .int .i64 999] (by rfl) rfl rfl zm ?_
            with_reducible refine (tier_Rate.calls k _ _ y217 999 t241 _ ?side1 ?side2 A8.out).mono ?_
            (case side1 => repeat (first | exact (Kd.R_reads' HO219.out).2.2 | (with_reducible refine Kd.C_alloc ?_ _) | (with_reducible refine Kd.C_drewN ?_ _) | (with_reducible refine Kd.C_drew ?_)))
            (case side2 => exact (Kd.R_reads' HO219.out).2.1)
            rintro e w36 ⟨rfl, hb⟩
            refine ⟨_, rfl, ?_⟩
            replace HO219 := kb HO219 hb
            replace HO222 := kb HO222 hb
            replace HO229 := kb HO229 hb
            replace HO232 := kb HO232 hb
            replace HO236 := kb HO236 hb
            replace HO239 := kb HO239 hb
            replace BK226 := bb BK226 hb
            replace HB := bs HB hb
            (try clear hb)
            (try clear hb2)
            (try clear hk)
            (try clear hi)
            refine hK.out _ _ ⟨(blk_cell BK226.out 0).trans rfl, (blk_cell BK226.out 1).trans rfl⟩ (fun hHeld => ?_)
            clear hK K
            refine norm_ (a' := ?_) ?_ ?_
            rotate_left
            · show Act.put _ (some 28) _ = _
              simp only [Act.put, List.setIfInBounds_toArray, List.set_cons_zero, List.set_cons_succ, i64_w, i32_w]
              rfl
            refine pz (i := 16) (N := some 29) #[true, true, true, true, true, true, true, true, true, true, true, true, true, true, true, true, true, false, false, false, false, false, false, false, false, false, false, false, false, false, false, false, false, false] rfl rfl (any_of HT_.out (by kernel_rfl)) (fun _ _ _ h => h) ?_
            refine pz (i := 17) (N := some 30) #[true, true, true, true, true, true, true, true, true, true, true, true, true, true, true, true, true, true, false, false, false, false, false, false, false, false, false, false, false, false, false, false, false, false] rfl rfl (any_of HT_.out (by kernel_rfl)) (fun _ _ _ h => h) ?_
            refine pz (i := 18) (N := some 31) #[true, true, true, true, true, true, true, true, true, true, true, true, true, true, true, true, true, true, true, false, false, false, false, false, false, false, false, false, false, false, false, false, false, false] rfl rfl (any_of HT_.out (by kernel_rfl)) (fun _ _ _ h => h) ?_
            refine tz2 (i := 19) (N := some 32) #[true, true, true, true, true, true, true, true, true, true, true, true, true, true, true, true, true, true, true, true, false, false, false, false, false, false, false, false, false, false, false, false, false, false] rfl rfl (take_ofW HT_.out HW_.out (by kernel_rfl)) (fun _ _ _ h => h) hHeld ?_
            refine one_ (i := 20) (N := some 33) #[true, true, true, true, true, true, true, true, true, true, true, true, true, true, true, true, true, true, true, true, true, false, false, false, false, false, false, false, false, false, false, false, false, false] rfl rfl (one_of HT_.out (by kernel_rfl)) (by decide) (fun K hK => ?_)
            refine goes_ Try.func41 (by kernel_rfl) rfl #[.int .i64 6588000000000] (by rfl) rfl rfl zm ?_
            with_reducible refine (corebankref01_Of.calls 6588000000000 t242 t243 _ A10.out).mono ?_
            rintro e w37 ⟨rfl, hb⟩
            refine ⟨_, rfl, ?_⟩
            replace HO219 := kb HO219 hb
            replace HO222 := kb HO222 hb
            replace HO229 := kb HO229 hb
            replace HO232 := kb HO232 hb
            replace HO236 := kb HO236 hb
            replace HO239 := kb HO239 hb
            replace BK226 := bb BK226 hb
            replace HB := bs HB hb
            (try clear hb)
            (try clear hb2)
            (try clear hk)
            (try clear hi)
            refine hK.out _ _ ⟨(blk_cell BK226.out 0).trans rfl, (blk_cell BK226.out 1).trans rfl⟩ (fun hHeld => ?_)
            clear hK K
            refine norm_ (a' := ?_) ?_ ?_
            rotate_left
            · show Act.put _ (some 33) _ = _
              simp only [Act.put, List.setIfInBounds_toArray, List.set_cons_zero, List.set_cons_succ, i64_w, i32_w]
              rfl
            refine pz (i := 21) (N := some 34) #[true, true, true, true, true, true, true, true, true, true, true, true, true, true, true, true, true, true, true, true, true, true, false, false, false, false, false, false, false, false, false, false, false, false] rfl rfl (any_of HT_.out (by kernel_rfl)) (fun _ _ _ h => h) ?_
            refine pz (i := 22) (N := some 35) #[true, true, true, true, true, true, true, true, true, true, true, true, true, true, true, true, true, true, true, true, true, true, true, false, false, false, false, false, false, false, false, false, false, false] rfl rfl (any_of HT_.out (by kernel_rfl)) (fun _ _ _ h => h) ?_
            refine pz (i := 23) (N := some 36) #[true, true, true, true, true, true, true, true, true, true, true, true, true, true, true, true, true, true, true, true, true, true, true, true, false, false, false, false, false, false, false, false, false, false] rfl rfl (any_of HT_.out (by kernel_rfl)) (fun _ _ _ h => h) ?_
            refine pz (i := 24) (N := some 37) #[true, true, true, true, true, true, true, true, true, true, true, true, true, true, true, true, true, true, true, true, true, true, true, true, true, false, false, false, false, false, false, false, false, false] rfl rfl (any_of HT_.out (by kernel_rfl)) (fun _ _ _ h => h) ?_
            refine pz (i := 25) (N := some 38) #[true, true, true, true, true, true, true, true, true, true, true, true, true, true, true, true, true, true, true, true, true, true, true, true, true, true, false, false, false, false, false, false, false, false] rfl rfl (any_of HT_.out (by kernel_rfl)) (fun _ _ _ h => h) ?_
            refine pz (i := 26) (N := some 39) #[true, true, true, true, true, true, true, true, true, true, true, true, true, true, true, true, true, true, true, true, true, true, true, true, true, true, true, false, false, false, false, false, false, false] rfl rfl (any_of HT_.out (by kernel_rfl)) (fun _ _ _ h => h) ?_
            refine pz (i := 27) (N := some 40) #[true, true, true, true, true, true, true, true, true, true, true, true, true, true, true, true, true, true, true, true, true, true, true, true, true, true, true, true, false, false, false, false, false, false] rfl rfl (any_of HT_.out (by kernel_rfl)) (fun _ _ _ h => h) ?_
            refine pz (i := 28) (N := some 41) #[true, true, true, true, true, true, true, true, true, true, true, true, true, true, true, true, true, true, true, true, true, true, true, true, true, true, true, true, true, false, false, false, false, false] rfl rfl (any_of HT_.out (by kernel_rfl)) (fun _ _ _ h => h) ?_
            refine one_ (i := 29) (N := some 42) #[true, true, true, true, true, true, true, true, true, true, true, true, true, true, true, true, true, true, true, true, true, true, true, true, true, true, true, true, true, true, false, false, false, false] rfl rfl (one_of HT_.out (by kernel_rfl)) (by decide) (fun K hK => ?_)
            refine Kd.R_lit_step k50 _ 50 ?hg (N := 42) ?hd (xs := ([(⟨1, 1⟩ : S50)] : List (S50))) (inner := [.int .i64 1, .int .i64 1]) (ok := fun _ => True) (okp := fun _ => True) ?hr ?hp (fun _ hk => hk) trivial (Below.refl _ _) (Nat.le_refl _) (by simp) ?_; (case hd => rfl); (case hg => rfl); (case hr => first | (go_simp; done) | (go_simp; rfl)); (case hp => exact (Reps.c2 (show Kd.M k50 _ _ _ (⟨1, 1⟩ : S50) [.int .i64 1, .int .i64 1] from (k50_mkM _ _ _ (⟨1, 1⟩ : S50) )) (Reps.none _ _)))
            intro v245 w38 ho39 hb hg_ hnew_
            clear hg_ hnew_
            (first | rw [← Ny244.out] at ho39 | (simp only [Int.reduceToNat] at ho39; rw [← Ny244.out] at ho39))
            have HO246 := Aside0.mk (Kd.R_lower (Kd.R_new' ho39 (Kd.R_lt (kq HO219))) (below_size (hq HB)))
            replace HO219 := Aside0.mk (Kd.R_elder' (kq HO219) (Kd.R_base ho39) hb)
            replace HO222 := kb HO222 hb
            replace HO229 := kb HO229 hb
            replace HO232 := kb HO232 hb
            replace HO236 := kb HO236 hb
            replace HO239 := kb HO239 hb
            replace BK226 := bb BK226 hb
            replace HB := bs HB hb
            clear hb ho39
            obtain ⟨Ao40, co40, eo40⟩ := Kd.R_slice HO246.out
            (first | subst eo40 | (injection eo40 with f1_ f2_ f3_; have f4_ := f1_.symm; have f5_ := f3_.symm; clear f1_ f2_ f3_; subst f4_; subst f5_))
            refine hK.out _ _ ⟨(blk_cell BK226.out 0).trans rfl, (blk_cell BK226.out 1).trans rfl⟩ (fun hHeld => ?_)
            clear hK K
            refine norm_ (a' := ?_) ?_ ?_
            rotate_left
            · show Act.put _ (some 42) _ = _
              simp only [Act.put, List.setIfInBounds_toArray, List.set_cons_zero, List.set_cons_succ, i64_w, i32_w]
              rfl
            refine one_ (i := 30) (N := some 43) #[true, true, true, true, true, true, true, true, true, true, true, true, true, true, true, true, true, true, true, true, true, true, true, true, true, true, true, true, true, true, true, false, false, false] rfl rfl (one_of HT_.out (by kernel_rfl)) (by decide) (fun K hK => ?_)
            refine goes_ Try.func16 (by kernel_rfl) rfl #[.slice Ao40 y244.length co40] (by rfl) rfl rfl zm ?_
            with_reducible refine (tier_Check.calls _ _ y244 t247 _ ?side1 ?side2 A13.out).mono ?_
            (case side1 => repeat (first | exact (Kd.R_reads' HO246.out).2.2 | (with_reducible refine Kd.C_alloc ?_ _) | (with_reducible refine Kd.C_drewN ?_ _) | (with_reducible refine Kd.C_drew ?_)))
            (case side2 => exact (Kd.R_reads' HO246.out).2.1)
            rintro e w41 ⟨rfl, hb⟩
            refine ⟨_, rfl, ?_⟩
            replace HO219 := kb HO219 hb
            replace HO222 := kb HO222 hb
            replace HO229 := kb HO229 hb
            replace HO232 := kb HO232 hb
            replace HO236 := kb HO236 hb
            replace HO239 := kb HO239 hb
            replace HO246 := kb HO246 hb
            replace BK226 := bb BK226 hb
            replace HB := bs HB hb
            (try clear hb)
            (try clear hb2)
            (try clear hk)
            (try clear hi)
            refine hK.out _ _ ⟨(blk_cell BK226.out 0).trans rfl, (blk_cell BK226.out 1).trans rfl⟩ (fun hHeld => ?_)
            clear hK K
            refine norm_ (a' := ?_) ?_ ?_
            rotate_left
            · show Act.put _ (some 43) _ = _
              simp only [Act.put, List.setIfInBounds_toArray, List.set_cons_zero, List.set_cons_succ, i64_w, i32_w]
              rfl
            refine pz (i := 31) (N := some 44) #[true, true, true, true, true, true, true, true, true, true, true, true, true, true, true, true, true, true, true, true, true, true, true, true, true, true, true, true, true, true, true, true, false, false] rfl rfl (any_of HT_.out (by kernel_rfl)) (fun _ _ _ h => h) ?_
            refine pz (i := 32) (N := some 45) #[true, true, true, true, true, true, true, true, true, true, true, true, true, true, true, true, true, true, true, true, true, true, true, true, true, true, true, true, true, true, true, true, true, false] rfl rfl (any_of HT_.out (by kernel_rfl)) (fun _ _ _ h => h) ?_
            refine pz (i := 33) (N := some 0) #[true, true, true, true, true, true, true, true, true, true, true, true, true, true, true, true, true, true, true, true, true, true, true, true, true, true, true, true, true, true, true, true, true, true] rfl rfl (any_of HT_.out (by kernel_rfl)) (fun _ _ _ h => h) ?_
            refine done_ (done_of HT_.out (by kernel_rfl)) ?_
            try go_wp2
            go_ret
            exact ⟨by first | rfl | (simp [errW_none, errW_some] <;> rfl) | (simp [*, errW_none, errW_some] <;> rfl), hq HB⟩
          · rw [if_neg c12] at H
            have c12b0 : (t225 == 0) = false := beq_eq_false_iff_ne.mpr c12
            have c12b1 : (t225 != 0) = true := bne_iff_ne.mpr c12
            exact absurd ((Option.some.inj H).trans HT.out) (by decide)
        · rw [if_neg c11] at H
          have c11b0 : (t223 == t242 && (t224 == t243)) = false := by simpa using c11
          (try (have c11b1 : decide (t223 = t242 && (t224 == t243)) = false := by simpa using c11))
          (try (have c11b2 : (t223 == t242 && (t224 == t243)) = false := by simpa using c11))
          (try (have c11b3 : ¬ (t223 = t242 && (t224 == t243)) := by simpa using c11))
          clear c11
          exact absurd ((Option.some.inj H).trans HT.out) (by decide)
      · rw [if_neg c9] at H
        have c9b0 : (t241 == 10000) = false := beq_eq_false_iff_ne.mpr c9
        have c9b1 : (t241 != 10000) = true := bne_iff_ne.mpr c9
        exact absurd ((Option.some.inj H).trans HT.out) (by decide)
    · replace c7 := Bool.eq_false_iff.mpr c7
      subst c7
      have H1 : (some false) = some r := by rw [if_neg (show ¬ (false = true) by decide)] at H; exact H
      clear H
      have H := H1
      clear H1
      exact absurd ((Option.some.inj H).trans HT.out) (by decide)
  · replace c4 := Bool.eq_false_iff.mpr c4
    subst c4
    have H1 : (some false) = some r := by rw [if_neg (show ¬ (false = true) by decide)] at H; exact H
    clear H
    have H := H1
    clear H1
    exact absurd ((Option.some.inj H).trans HT.out) (by decide)

end Go.Proofs.Ytlmabdiodopidaa.P
end
section
set_option linter.unusedVariables false
set_option linter.unusedSimpArgs false
namespace Go.Proofs.Ytlmabdiodopidaa.G
open Go.RowKit Go.Proofs.Ytlmabdiodopidaa.P
def corebanklaw14_live.f : Option Bool := some true
theorem live14_true : corebanklaw14_liveT.f 100 = some true := by decide +kernel
theorem corebanklaw14_live.calls (r : Bool) (w : World) (h : corebanklaw14_live.f = some r) : Calls Try.prog 18 #[] w fun e w' => e = .returned (.bool r) ∧ Below w.heap.size w w' := by
  have e : true = r := Option.some.inj h
  subst e
  exact corebanklaw14_liveT.calls 100 true w rfl live14_true
end Go.Proofs.Ytlmabdiodopidaa.G
end
section
set_option linter.unusedVariables false
set_option linter.unusedSimpArgs false
namespace Go.Proofs.Ytlmabdiodopidaa.P
open Go.Proofs.Ytlmabdiodopidaa.G
attribute [local go_sem high] un_not64 un_noti run_add64
open Go.RowKit Go.Proofs.YtlmabdiodopidaaW.PrintWords Go.Proofs.YtlmabdiodopidaaW.PrintLast Go.Proofs.YtlmabdiodopidaaW.PrintMore
attribute [local go_sem] max2_int min2_int max_two min_two max_three min_three max_four min_four   -- for this text's walks alone
set_option linter.unusedVariables false
set_option linter.unusedSimpArgs false

/-! ### corebanklaw14_TierChecks: function 3 -/
def corebanklaw14_TierChecks.f (k : Nat) (l0 : List (S50)) : Option (Bool) := if (l0.length : Int) > 100 then ((corebanklaw14_live.f).bind fun t248 => (some t248)) else ((tier_Check.f l0).bind fun t249 => ((corebankref14_Check.f k l0).bind fun t250 => (if t249 = t250 then ((corebanklaw14_live.f).bind fun t251 => (some t251)) else (some false))))
theorem corebanklaw14_TierChecks.mono : ∀ a0 k, LeO (corebanklaw14_TierChecks.f k a0) (corebanklaw14_TierChecks.f (k + 1) a0) := by
  intro a0 k
  unfold corebanklaw14_TierChecks.f
  repeat' first
      | (with_reducible exact corebankref14_Check.mono _ _)
      | (with_reducible exact LeO.refl _)
      | (with_reducible exact LeO.none _)
      | (with_reducible refine LeO.ite ?_ ?_)
      | (with_reducible refine LeO.bind ?_ (fun _ => ?_))
      | exact corebankref14_Check.mono _ _
      | exact LeO.none _
      | refine LeO.ite ?_ ?_
      | refine LeO.bind ?_ (fun _ => ?_)
set_option maxHeartbeats 8000000 in
set_option maxRecDepth 100000 in
theorem corebanklaw14_TierChecks.calls (k : Nat) (A0 : Option Addr) (c0 : Nat) (l0 : List (S50)) (r : Bool) (w : World) (hr0 : Kd.C k50 w A0 l0.length l0) (hc0 : l0.length ≤ c0) (hT : r = true) (h : corebanklaw14_TierChecks.f k l0 = some r) :
    Calls Try.prog 3 #[.slice A0 l0.length c0] w fun e w' => e = .returned (.bool r) ∧ Below w.heap.size w w' := by
  have HR0 := Aside0.mk hr0
  have HC0 := Aside0.mk hc0
  clear hr0 hc0
  have HB := Aside0.mk (Below.refl w.heap.size w)
  have HT := Aside0.mk hT
  clear hT
  have H : (if (l0.length : Int) > 100 then ((corebanklaw14_live.f).bind fun t248 => (some t248)) else ((tier_Check.f l0).bind fun t249 => ((corebankref14_Check.f k l0).bind fun t250 => (if t249 = t250 then ((corebanklaw14_live.f).bind fun t251 => (some t251)) else (some false))))) = some r := h
  clear h
  by_cases c2 : (l0.length : Int) > 100
  · rw [if_pos c2] at H
    have c2b0 : decide (100 < (l0.length : Int)) = true := decide_eq_true c2
    have c2b1 : decide (100 < l0.length) = true := decide_eq_true (by omega)
    clear c2
    replace H := Option.bind_eq_some_iff.mp H
    obtain ⟨t248, A30, H⟩ := H
    replace H : (some t248) = some r := H
    have A3 := Aside0.mk A30
    clear A30
    obtain rfl := Option.some.inj H
    go_enter Try.func3, Try.ntmps3
    go_wp2_with (first | (go_at_call 18; (with_reducible refine (corebanklaw14_live.calls  t248 _ A3.out).mono ?_); rintro e w4 ⟨rfl, hb⟩; replace HB := bs HB hb; (try clear hb); (try clear hb2); (try clear hk); (try clear hi)))
    go_ret
    exact ⟨by first | rfl | (simp [errW_none, errW_some] <;> rfl) | (simp [*, errW_none, errW_some] <;> rfl), hq HB⟩
  · rw [if_neg c2] at H
    have c2b0 : decide (100 < (l0.length : Int)) = false := decide_eq_false c2
    have c2b1 : decide (100 < l0.length) = false := decide_eq_false (by omega)
    clear c2
    replace H := Option.bind_eq_some_iff.mp H
    obtain ⟨t249, A50, H⟩ := H
    replace H : ((corebankref14_Check.f k l0).bind fun t250 => (if t249 = t250 then ((corebanklaw14_live.f).bind fun t251 => (some t251)) else (some false))) = some r := H
    have A5 := Aside0.mk A50
    clear A50
    replace H := Option.bind_eq_some_iff.mp H
    obtain ⟨t250, A60, H⟩ := H
    replace H : (if t249 = t250 then ((corebanklaw14_live.f).bind fun t251 => (some t251)) else (some false)) = some r := H
    have A6 := Aside0.mk A60
    clear A60
    by_cases c7 : t249 = t250
    · rw [if_pos c7] at H
      have c7b0 : (t249 == t250) = true := beq_iff_eq.mpr c7
      have c7b1 : (t249 != t250) = false := bne_eq_false_iff_eq.mpr c7
      clear c7
      replace H := Option.bind_eq_some_iff.mp H
      obtain ⟨t251, A80, H⟩ := H
      replace H : (some t251) = some r := H
      have A8 := Aside0.mk A80
      clear A80
      obtain rfl := Option.some.inj H
      go_enter Try.func3, Try.ntmps3
      go_wp2_with (first | (go_at_call 16; (with_reducible refine (tier_Check.calls _ _ l0 t249 _ ?side1 ?side2 A5.out).mono ?_); (case side1 => repeat (first | exact HR0.out | (with_reducible refine Kd.C_alloc ?_ _) | (with_reducible refine Kd.C_drewN ?_ _) | (with_reducible refine Kd.C_drew ?_))); (case side2 => exact HC0.out); rintro e w9 ⟨rfl, hb⟩; replace HB := bs HB hb; (try clear hb); (try clear hb2); (try clear hk); (try clear hi)) | (go_at_call 17; (with_reducible refine (corebankref14_Check.calls k _ _ l0 t250 _ ?side1 ?side2 A6.out).mono ?_); (case side1 => repeat (first | exact (Kd.C_below HR0.out HB.out) | (with_reducible refine Kd.C_alloc ?_ _) | (with_reducible refine Kd.C_drewN ?_ _) | (with_reducible refine Kd.C_drew ?_))); (case side2 => exact HC0.out); rintro e w' ⟨rfl, ⟨nd, rfl⟩⟩) | (go_at_call 18; (with_reducible refine (corebanklaw14_live.calls  t251 _ A8.out).mono ?_); rintro e w10 ⟨rfl, hb⟩; replace HB := bs HB hb; (try clear hb); (try clear hb2); (try clear hk); (try clear hi)))
      go_ret
      exact ⟨by first | rfl | (simp [errW_none, errW_some] <;> rfl) | (simp [*, errW_none, errW_some] <;> rfl), hq HB⟩
    · rw [if_neg c7] at H
      have c7b0 : (t249 == t250) = false := beq_eq_false_iff_ne.mpr c7
      have c7b1 : (t249 != t250) = true := bne_iff_ne.mpr c7
      exact absurd ((Option.some.inj H).trans HT.out) (by decide)

/-! ### corebankref14_Size: function 26 -/
def corebankref14_Size.f (a0 : Int) : Option (Int) := if a0 = (-9223372036854775808) then (some 9223372036854775807) else (if a0 < 0 then (some (wrap64 (-a0))) else (some a0))
set_option maxHeartbeats 8000000 in
set_option maxRecDepth 100000 in
theorem corebankref14_Size.calls (a0 : Int) (r : Int) (w : World) (h : corebankref14_Size.f a0 = some r) :
    Calls Try.prog 26 #[.int .i64 a0] w fun e w' => e = .returned (.int .i64 r) ∧ Drawn0 w w' := by
  have H : (if a0 = (-9223372036854775808) then (some 9223372036854775807) else (if a0 < 0 then (some (wrap64 (-a0))) else (some a0))) = some r := h
  clear h
  by_cases c2 : a0 = (-9223372036854775808)
  · rw [if_pos c2] at H
    have c2b0 : (a0 == (-9223372036854775808)) = true := beq_iff_eq.mpr c2
    have c2b1 : (a0 != (-9223372036854775808)) = false := bne_eq_false_iff_eq.mpr c2
    clear c2
    obtain rfl := Option.some.inj H
    go_enter Try.func26, Try.ntmps26
    go_wp2
    go_ret
    exact ⟨by first | rfl | (simp; done) | (simp [*]; done), by repeat (first | exact Drawn0.refl _ | apply Drawn0.step)⟩
  · rw [if_neg c2] at H
    have c2b0 : (a0 == (-9223372036854775808)) = false := beq_eq_false_iff_ne.mpr c2
    have c2b1 : (a0 != (-9223372036854775808)) = true := bne_iff_ne.mpr c2
    by_cases c3 : a0 < 0
    · rw [if_pos c3] at H
      have c3b0 : decide (a0 < 0) = true := decide_eq_true c3
      clear c3
      obtain rfl := Option.some.inj H
      go_enter Try.func26, Try.ntmps26
      go_wp2
      go_ret
      exact ⟨by first | rfl | (simp; done) | (simp [*]; done), by repeat (first | exact Drawn0.refl _ | apply Drawn0.step)⟩
    · rw [if_neg c3] at H
      have c3b0 : decide (a0 < 0) = false := decide_eq_false c3
      clear c3
      obtain rfl := Option.some.inj H
      go_enter Try.func26, Try.ntmps26
      go_wp2
      go_ret
      exact ⟨by first | rfl | (simp; done) | (simp [*]; done), by repeat (first | exact Drawn0.refl _ | apply Drawn0.step)⟩

/-! ### corebankref14_Rate: function 20 -/
def corebankref14_Rate.l0 : Nat → List (S50) → Int → Int → Int → Option (Int)
  | 0, _, _, _, _ => none
  | k + 1, x0, x1, x5, x6 => if x6 < (x0.length : Int) then (if 0 ≤ x6 then ((corebankref14_Size.f x1).bind fun t254 => (if ((rd_T50 x0 x6).f0) ≤ t254 then (corebankref14_Rate.l0 k x0 x1 ((rd_T50 x0 x6).f1) (wrap64 (x6 + 1))) else (corebankref14_Rate.l0 k x0 x1 x5 (wrap64 (x6 + 1))))) else (none)) else (some x5)
def corebankref14_Rate.f (k : Nat) (l0 : List (S50)) (a1 : Int) : Option (Int) := (corebankref14_Check.f k l0).bind fun t252 => (if t252 = 0 then (corebankref14_Rate.l0 k l0 a1 0 0) else (some 0))
theorem corebankref14_Rate.mono_l : ∀ k, (∀ y0 y1 y2 y3, LeO (corebankref14_Rate.l0 k y0 y1 y2 y3) (corebankref14_Rate.l0 (k + 1) y0 y1 y2 y3))
  | 0 => fun _ _ _ _ r h => by simp [corebankref14_Rate.l0] at h
  | k + 1 => by
    have ih0 := corebankref14_Rate.mono_l k
    · intro y0 y1 y2 y3
      unfold corebankref14_Rate.l0
      repeat' first
      | (with_reducible exact ih0 _ _ _ _)
      | (with_reducible exact corebankref14_Check.mono _ _)
      | (with_reducible exact LeO.refl _)
      | (with_reducible exact LeO.none _)
      | (with_reducible refine LeO.ite ?_ ?_)
      | (with_reducible refine LeO.bind ?_ (fun _ => ?_))
      | exact ih0 _ _ _ _
      | exact corebankref14_Check.mono _ _
      | exact LeO.none _
      | refine LeO.ite ?_ ?_
      | refine LeO.bind ?_ (fun _ => ?_)
theorem corebankref14_Rate.mono : ∀ a0 a1 k, LeO (corebankref14_Rate.f k a0 a1) (corebankref14_Rate.f (k + 1) a0 a1) := by
  intro a0 a1 k
  have ih0 := corebankref14_Rate.mono_l k
  unfold corebankref14_Rate.f
  repeat' first
      | (with_reducible exact ih0 _ _ _ _)
      | (with_reducible exact corebankref14_Check.mono _ _)
      | (with_reducible exact LeO.refl _)
      | (with_reducible exact LeO.none _)
      | (with_reducible refine LeO.ite ?_ ?_)
      | (with_reducible refine LeO.bind ?_ (fun _ => ?_))
      | exact ih0 _ _ _ _
      | exact corebankref14_Check.mono _ _
      | exact LeO.none _
      | refine LeO.ite ?_ ?_
      | refine LeO.bind ?_ (fun _ => ?_)
set_option maxHeartbeats 8000000 in
set_option maxRecDepth 100000 in
theorem corebankref14_Rate.calls (k : Nat) (A0 : Option Addr) (c0 : Nat) (l0 : List (S50)) (a1 : Int) (r : Int) (w : World) (hr0 : Kd.C k50 w A0 l0.length l0) (hc0 : l0.length ≤ c0) (h : corebankref14_Rate.f k l0 a1 = some r) :
    Calls Try.prog 20 #[.slice A0 l0.length c0, .int .i64 a1] w fun e w' => e = .returned (.int .i64 r) ∧ Drawn0 w w' := by
  have HR0 := Aside0.mk hr0
  have HC0 := Aside0.mk hc0
  clear hr0 hc0
  have H : ((corebankref14_Check.f k l0).bind fun t252 => (if t252 = 0 then (corebankref14_Rate.l0 k l0 a1 0 0) else (some 0))) = some r := h
  clear h
  replace H := Option.bind_eq_some_iff.mp H
  obtain ⟨t252, A30, H⟩ := H
  replace H : (if t252 = 0 then (corebankref14_Rate.l0 k l0 a1 0 0) else (some 0)) = some r := H
  have A3 := Aside0.mk A30
  clear A30
  by_cases c4 : t252 = 0
  · rw [if_pos c4] at H
    have c4b0 : (t252 == 0) = true := beq_iff_eq.mpr c4
    have c4b1 : (t252 != 0) = false := bne_eq_false_iff_eq.mpr c4
    clear c4
    have H' := Aside0.mk H
    clear H
    go_enter Try.func20, Try.ntmps20
    go_wp2_with (first | (go_at_call 17; (with_reducible refine (corebankref14_Check.calls k _ _ l0 t252 _ ?side1 ?side2 A3.out).mono ?_); (case side1 => repeat (first | exact HR0.out | (with_reducible refine Kd.C_alloc ?_ _) | (with_reducible refine Kd.C_drewN ?_ _) | (with_reducible refine Kd.C_drew ?_))); (case side2 => exact HC0.out); rintro e w' ⟨rfl, ⟨nd, rfl⟩⟩; (try first | exact ⟨rfl, _, World.drewN_drewN _ _ _⟩ | exact ⟨rfl, _, Eq.trans (World.drewN_drewN _ _ _) (congrArg (World.drewN _) (Nat.add_assoc _ _ _))⟩)))
    repeat (go_quiet (first | (go_at_call 17; (with_reducible refine (corebankref14_Check.calls k _ _ l0 t252 _ ?side1 ?side2 A3.out).mono ?_); (case side1 => repeat (first | exact HR0.out | (with_reducible refine Kd.C_alloc ?_ _) | (with_reducible refine Kd.C_drewN ?_ _) | (with_reducible refine Kd.C_drew ?_))); (case side2 => exact HC0.out); rintro e w' ⟨rfl, ⟨nd, rfl⟩⟩; (try first | exact ⟨rfl, _, World.drewN_drewN _ _ _⟩ | exact ⟨rfl, _, Eq.trans (World.drewN_drewN _ _ _) (congrArg (World.drewN _) (Nat.add_assoc _ _ _))⟩))); try go_wp2_with (first | (go_at_call 17; (with_reducible refine (corebankref14_Check.calls k _ _ l0 t252 _ ?side1 ?side2 A3.out).mono ?_); (case side1 => repeat (first | exact HR0.out | (with_reducible refine Kd.C_alloc ?_ _) | (with_reducible refine Kd.C_drewN ?_ _) | (with_reducible refine Kd.C_drew ?_))); (case side2 => exact HC0.out); rintro e w' ⟨rfl, ⟨nd, rfl⟩⟩; (try first | exact ⟨rfl, _, World.drewN_drewN _ _ _⟩ | exact ⟨rfl, _, Eq.trans (World.drewN_drewN _ _ _) (congrArg (World.drewN _) (Nat.add_assoc _ _ _))⟩))))
    go_loopg [5, 6] k (fun kq v5 v6 w' => ∃ (x5_1 : Int) (x6_1 : Int), v5 = .int .i64 x5_1 ∧ v6 = .int .i64 x6_1 ∧ Aside0 (corebankref14_Rate.l0 kq l0 a1 x5_1 x6_1 = some r) ∧ Aside0 (kq ≤ k) ∧ Drawn0 w w')
    case atStart => exact ⟨(0), (0), (by first | rfl | (simp; done) | (simp [*]; done)), (by first | rfl | (simp; done) | (simp [*]; done)), H', ⟨Nat.le_refl _⟩, by repeat (first | exact Drawn0.refl _ | apply Drawn0.step)⟩
    case round =>
      clear H'
      try clear c2
      try clear p2
      try clear c4
      try clear c4b0
      try clear c4b1
      obtain ⟨x5_1, x6_1, rfl, rfl, HA, HK1, ⟨m1, rfl⟩⟩ := hrel
      cases gk with
      | zero => exact absurd HA.out (by simp [corebankref14_Rate.l0])
      | succ k1 =>
        have H := HA.out
        clear HA
        simp only [corebankref14_Rate.l0] at H
        by_cases c5 : x6_1 < (l0.length : Int)
        · rw [if_pos c5] at H
          have c5b0 : decide (x6_1 < (l0.length : Int)) = true := decide_eq_true c5
          clear c5
          by_cases c6 : 0 ≤ x6_1
          · rw [if_pos c6] at H
            have c6b0 : decide (0 ≤ x6_1) = true := decide_eq_true c6
            clear c6
            replace H := Option.bind_eq_some_iff.mp H
            obtain ⟨t254, A70, H⟩ := H
            replace H : (if ((rd_T50 l0 x6_1).f0) ≤ t254 then (corebankref14_Rate.l0 k1 l0 a1 ((rd_T50 l0 x6_1).f1) (wrap64 (x6_1 + 1))) else (corebankref14_Rate.l0 k1 l0 a1 x5_1 (wrap64 (x6_1 + 1)))) = some r := H
            have A7 := Aside0.mk A70
            clear A70
            by_cases c8 : ((rd_T50 l0 x6_1).f0) ≤ t254
            · rw [if_pos c8] at H
              have c8b0 : decide (((rd_T50 l0 x6_1).f0) ≤ t254) = true := decide_eq_true c8
              clear c8
              have H' := Aside0.mk H
              clear H
              have p253 : 0 ≤ (x6_1 : Int) := of_decide_eq_true (by first | (with_reducible assumption) | assumption)
              have q253 : x6_1 < (l0.length : Int) := of_decide_eq_true (by first | (with_reducible assumption) | assumption)
              obtain ⟨ad253, e253, hx253_0, hx253_1⟩ := at_T50 HR0.out x6_1 p253 q253
              cases e253
              replace p253 := eq_true p253
              replace q253 := eq_true q253
              go_wp2_with (first | (go_at_call 26; (with_reducible refine (corebankref14_Size.calls a1 t254 _ A7.out).mono ?_); rintro e w' ⟨rfl, ⟨nd, rfl⟩⟩; (try first | exact ⟨rfl, _, World.drewN_drewN _ _ _⟩ | exact ⟨rfl, _, Eq.trans (World.drewN_drewN _ _ _) (congrArg (World.drewN _) (Nat.add_assoc _ _ _))⟩); have p255 : 0 ≤ (x6_1 : Int) := of_decide_eq_true (by first | (with_reducible assumption) | assumption); have q255 : x6_1 < (l0.length : Int) := of_decide_eq_true (by first | (with_reducible assumption) | assumption); obtain ⟨ad255, e255, hx255_0, hx255_1⟩ := at_T50 HR0.out x6_1 p255 q255; obtain rfl : ad253 = ad255 := (by injection e255); replace p255 := eq_true p255; replace q255 := eq_true q255))
              repeat (go_quiet (first | (go_at_call 26; (with_reducible refine (corebankref14_Size.calls a1 t254 _ A7.out).mono ?_); rintro e w' ⟨rfl, ⟨nd, rfl⟩⟩; (try first | exact ⟨rfl, _, World.drewN_drewN _ _ _⟩ | exact ⟨rfl, _, Eq.trans (World.drewN_drewN _ _ _) (congrArg (World.drewN _) (Nat.add_assoc _ _ _))⟩); have p255 : 0 ≤ (x6_1 : Int) := of_decide_eq_true (by first | (with_reducible assumption) | assumption); have q255 : x6_1 < (l0.length : Int) := of_decide_eq_true (by first | (with_reducible assumption) | assumption); obtain ⟨ad255, e255, hx255_0, hx255_1⟩ := at_T50 HR0.out x6_1 p255 q255; obtain rfl : ad253 = ad255 := (by injection e255); replace p255 := eq_true p255; replace q255 := eq_true q255)); try go_wp2_with (first | (go_at_call 26; (with_reducible refine (corebankref14_Size.calls a1 t254 _ A7.out).mono ?_); rintro e w' ⟨rfl, ⟨nd, rfl⟩⟩; (try first | exact ⟨rfl, _, World.drewN_drewN _ _ _⟩ | exact ⟨rfl, _, Eq.trans (World.drewN_drewN _ _ _) (congrArg (World.drewN _) (Nat.add_assoc _ _ _))⟩); have p255 : 0 ≤ (x6_1 : Int) := of_decide_eq_true (by first | (with_reducible assumption) | assumption); have q255 : x6_1 < (l0.length : Int) := of_decide_eq_true (by first | (with_reducible assumption) | assumption); obtain ⟨ad255, e255, hx255_0, hx255_1⟩ := at_T50 HR0.out x6_1 p255 q255; obtain rfl : ad253 = ad255 := (by injection e255); replace p255 := eq_true p255; replace q255 := eq_true q255)))
              go_roundg k1
              case measure => have := HK1.out; omega
              case rel => exact ⟨((rd_T50 l0 x6_1).f1), (wrap64 (x6_1 + 1)), (by first | rfl | (simp; done) | (simp [*]; done)), (by first | rfl | (simp; done) | (simp [*]; done)), H', ⟨by have := HK1.out; omega⟩, by repeat (first | exact Drawn0.refl _ | apply Drawn0.step)⟩
            · rw [if_neg c8] at H
              have c8b0 : decide (((rd_T50 l0 x6_1).f0) ≤ t254) = false := decide_eq_false c8
              clear c8
              have H' := Aside0.mk H
              clear H
              have p253 : 0 ≤ (x6_1 : Int) := of_decide_eq_true (by first | (with_reducible assumption) | assumption)
              have q253 : x6_1 < (l0.length : Int) := of_decide_eq_true (by first | (with_reducible assumption) | assumption)
              obtain ⟨ad253, e253, hx253_0, hx253_1⟩ := at_T50 HR0.out x6_1 p253 q253
              cases e253
              replace p253 := eq_true p253
              replace q253 := eq_true q253
              go_wp2_with (first | (go_at_call 26; (with_reducible refine (corebankref14_Size.calls a1 t254 _ A7.out).mono ?_); rintro e w' ⟨rfl, ⟨nd, rfl⟩⟩; (try first | exact ⟨rfl, _, World.drewN_drewN _ _ _⟩ | exact ⟨rfl, _, Eq.trans (World.drewN_drewN _ _ _) (congrArg (World.drewN _) (Nat.add_assoc _ _ _))⟩)))
              repeat (go_quiet (first | (go_at_call 26; (with_reducible refine (corebankref14_Size.calls a1 t254 _ A7.out).mono ?_); rintro e w' ⟨rfl, ⟨nd, rfl⟩⟩; (try first | exact ⟨rfl, _, World.drewN_drewN _ _ _⟩ | exact ⟨rfl, _, Eq.trans (World.drewN_drewN _ _ _) (congrArg (World.drewN _) (Nat.add_assoc _ _ _))⟩))); try go_wp2_with (first | (go_at_call 26; (with_reducible refine (corebankref14_Size.calls a1 t254 _ A7.out).mono ?_); rintro e w' ⟨rfl, ⟨nd, rfl⟩⟩; (try first | exact ⟨rfl, _, World.drewN_drewN _ _ _⟩ | exact ⟨rfl, _, Eq.trans (World.drewN_drewN _ _ _) (congrArg (World.drewN _) (Nat.add_assoc _ _ _))⟩))))
              go_roundg k1
              case measure => have := HK1.out; omega
              case rel => exact ⟨(x5_1), (wrap64 (x6_1 + 1)), (by first | rfl | (simp; done) | (simp [*]; done)), (by first | rfl | (simp; done) | (simp [*]; done)), H', ⟨by have := HK1.out; omega⟩, by repeat (first | exact Drawn0.refl _ | apply Drawn0.step)⟩
          · rw [if_neg c6] at H
            exact absurd H (by simp)
        · rw [if_neg c5] at H
          have c5b0 : decide (x6_1 < (l0.length : Int)) = false := decide_eq_false c5
          clear c5
          obtain rfl := Option.some.inj H
          go_wp2
          repeat (go_quiet (fail); try go_wp2)
          go_ret
          exact ⟨by first | rfl | (simp; done) | (simp [*]; done), by repeat (first | exact Drawn0.refl _ | apply Drawn0.step)⟩
  · rw [if_neg c4] at H
    have c4b0 : (t252 == 0) = false := beq_eq_false_iff_ne.mpr c4
    have c4b1 : (t252 != 0) = true := bne_iff_ne.mpr c4
    obtain rfl := Option.some.inj H
    go_enter Try.func20, Try.ntmps20
    go_wp2_with (first | (go_at_call 17; (with_reducible refine (corebankref14_Check.calls k _ _ l0 t252 _ ?side1 ?side2 A3.out).mono ?_); (case side1 => repeat (first | exact HR0.out | (with_reducible refine Kd.C_alloc ?_ _) | (with_reducible refine Kd.C_drewN ?_ _) | (with_reducible refine Kd.C_drew ?_))); (case side2 => exact HC0.out); rintro e w' ⟨rfl, ⟨nd, rfl⟩⟩; (try first | exact ⟨rfl, _, World.drewN_drewN _ _ _⟩ | exact ⟨rfl, _, Eq.trans (World.drewN_drewN _ _ _) (congrArg (World.drewN _) (Nat.add_assoc _ _ _))⟩)))
    repeat (go_quiet (first | (go_at_call 17; (with_reducible refine (corebankref14_Check.calls k _ _ l0 t252 _ ?side1 ?side2 A3.out).mono ?_); (case side1 => repeat (first | exact HR0.out | (with_reducible refine Kd.C_alloc ?_ _) | (with_reducible refine Kd.C_drewN ?_ _) | (with_reducible refine Kd.C_drew ?_))); (case side2 => exact HC0.out); rintro e w' ⟨rfl, ⟨nd, rfl⟩⟩; (try first | exact ⟨rfl, _, World.drewN_drewN _ _ _⟩ | exact ⟨rfl, _, Eq.trans (World.drewN_drewN _ _ _) (congrArg (World.drewN _) (Nat.add_assoc _ _ _))⟩))); try go_wp2_with (first | (go_at_call 17; (with_reducible refine (corebankref14_Check.calls k _ _ l0 t252 _ ?side1 ?side2 A3.out).mono ?_); (case side1 => repeat (first | exact HR0.out | (with_reducible refine Kd.C_alloc ?_ _) | (with_reducible refine Kd.C_drewN ?_ _) | (with_reducible refine Kd.C_drew ?_))); (case side2 => exact HC0.out); rintro e w' ⟨rfl, ⟨nd, rfl⟩⟩; (try first | exact ⟨rfl, _, World.drewN_drewN _ _ _⟩ | exact ⟨rfl, _, Eq.trans (World.drewN_drewN _ _ _) (congrArg (World.drewN _) (Nat.add_assoc _ _ _))⟩))))
    go_ret
    exact ⟨by first | rfl | (simp; done) | (simp [*]; done), by repeat (first | exact Drawn0.refl _ | apply Drawn0.step)⟩

/-! ### corebanklaw14_TierRates: function 4 -/
def corebanklaw14_TierRates.f (k : Nat) (l0 : List (S50)) (a1 : Int) : Option (Bool) := if (l0.length : Int) > 100 then ((corebanklaw14_live.f).bind fun t256 => (some t256)) else ((tier_Rate.f k l0 a1).bind fun t257 => ((corebankref14_Rate.f k l0 a1).bind fun t258 => (if t257 = t258 then ((corebanklaw14_live.f).bind fun t259 => (some t259)) else (some false))))
theorem corebanklaw14_TierRates.mono : ∀ a0 a1 k, LeO (corebanklaw14_TierRates.f k a0 a1) (corebanklaw14_TierRates.f (k + 1) a0 a1) := by
  intro a0 a1 k
  unfold corebanklaw14_TierRates.f
  repeat' first
      | (with_reducible exact corebankref14_Rate.mono _ _ _)
      | (with_reducible exact tier_Rate.mono _ _ _)
      | (with_reducible exact LeO.refl _)
      | (with_reducible exact LeO.none _)
      | (with_reducible refine LeO.ite ?_ ?_)
      | (with_reducible refine LeO.bind ?_ (fun _ => ?_))
      | exact corebankref14_Rate.mono _ _ _
      | exact tier_Rate.mono _ _ _
      | exact LeO.none _
      | refine LeO.ite ?_ ?_
      | refine LeO.bind ?_ (fun _ => ?_)
set_option maxHeartbeats 8000000 in
set_option maxRecDepth 100000 in
theorem corebanklaw14_TierRates.calls (k : Nat) (A0 : Option Addr) (c0 : Nat) (l0 : List (S50)) (a1 : Int) (r : Bool) (w : World) (hr0 : Kd.C k50 w A0 l0.length l0) (hc0 : l0.length ≤ c0) (hT : r = true) (h : corebanklaw14_TierRates.f k l0 a1 = some r) :
    Calls Try.prog 4 #[.slice A0 l0.length c0, .int .i64 a1] w fun e w' => e = .returned (.bool r) ∧ Below w.heap.size w w' := by
  have HR0 := Aside0.mk hr0
  have HC0 := Aside0.mk hc0
  clear hr0 hc0
  have HB := Aside0.mk (Below.refl w.heap.size w)
  have HT := Aside0.mk hT
  clear hT
  have H : (if (l0.length : Int) > 100 then ((corebanklaw14_live.f).bind fun t256 => (some t256)) else ((tier_Rate.f k l0 a1).bind fun t257 => ((corebankref14_Rate.f k l0 a1).bind fun t258 => (if t257 = t258 then ((corebanklaw14_live.f).bind fun t259 => (some t259)) else (some false))))) = some r := h
  clear h
  by_cases c3 : (l0.length : Int) > 100
  · rw [if_pos c3] at H
    have c3b0 : decide (100 < (l0.length : Int)) = true := decide_eq_true c3
    have c3b1 : decide (100 < l0.length) = true := decide_eq_true (by omega)
    clear c3
    replace H := Option.bind_eq_some_iff.mp H
    obtain ⟨t256, A40, H⟩ := H
    replace H : (some t256) = some r := H
    have A4 := Aside0.mk A40
    clear A40
    obtain rfl := Option.some.inj H
    go_enter Try.func4, Try.ntmps4
    go_wp2_with (first | (go_at_call 18; (with_reducible refine (corebanklaw14_live.calls  t256 _ A4.out).mono ?_); rintro e w5 ⟨rfl, hb⟩; replace HB := bs HB hb; (try clear hb); (try clear hb2); (try clear hk); (try clear hi)))
    go_ret
    exact ⟨by first | rfl | (simp [errW_none, errW_some] <;> rfl) | (simp [*, errW_none, errW_some] <;> rfl), hq HB⟩
  · rw [if_neg c3] at H
    have c3b0 : decide (100 < (l0.length : Int)) = false := decide_eq_false c3
    have c3b1 : decide (100 < l0.length) = false := decide_eq_false (by omega)
    clear c3
    replace H := Option.bind_eq_some_iff.mp H
    obtain ⟨t257, A60, H⟩ := H
    replace H : ((corebankref14_Rate.f k l0 a1).bind fun t258 => (if t257 = t258 then ((corebanklaw14_live.f).bind fun t259 => (some t259)) else (some false))) = some r := H
    have A6 := Aside0.mk A60
    clear A60
    replace H := Option.bind_eq_some_iff.mp H
    obtain ⟨t258, A70, H⟩ := H
    replace H : (if t257 = t258 then ((corebanklaw14_live.f).bind fun t259 => (some t259)) else (some false)) = some r := H
    have A7 := Aside0.mk A70
    clear A70
    by_cases c8 : t257 = t258
    · rw [if_pos c8] at H
      have c8b0 : (t257 == t258) = true := beq_iff_eq.mpr c8
      have c8b1 : (t257 != t258) = false := bne_eq_false_iff_eq.mpr c8
      clear c8
      replace H := Option.bind_eq_some_iff.mp H
      obtain ⟨t259, A90, H⟩ := H
      replace H : (some t259) = some r := H
      have A9 := Aside0.mk A90
      clear A90
      obtain rfl := Option.some.inj H
      go_enter Try.func4, Try.ntmps4
      go_wp2_with (first | (go_at_call 19; (with_reducible refine (tier_Rate.calls k _ _ l0 a1 t257 _ ?side1 ?side2 A6.out).mono ?_); (case side1 => repeat (first | exact HR0.out | (with_reducible refine Kd.C_alloc ?_ _) | (with_reducible refine Kd.C_drewN ?_ _) | (with_reducible refine Kd.C_drew ?_))); (case side2 => exact HC0.out); rintro e w10 ⟨rfl, hb⟩; replace HB := bs HB hb; (try clear hb); (try clear hb2); (try clear hk); (try clear hi)) | (go_at_call 20; (with_reducible refine (corebankref14_Rate.calls k _ _ l0 a1 t258 _ ?side1 ?side2 A7.out).mono ?_); (case side1 => repeat (first | exact (Kd.C_below HR0.out HB.out) | (with_reducible refine Kd.C_alloc ?_ _) | (with_reducible refine Kd.C_drewN ?_ _) | (with_reducible refine Kd.C_drew ?_))); (case side2 => exact HC0.out); rintro e w' ⟨rfl, ⟨nd, rfl⟩⟩) | (go_at_call 18; (with_reducible refine (corebanklaw14_live.calls  t259 _ A9.out).mono ?_); rintro e w11 ⟨rfl, hb⟩; replace HB := bs HB hb; (try clear hb); (try clear hb2); (try clear hk); (try clear hi)))
      go_ret
      exact ⟨by first | rfl | (simp [errW_none, errW_some] <;> rfl) | (simp [*, errW_none, errW_some] <;> rfl), hq HB⟩
    · rw [if_neg c8] at H
      have c8b0 : (t257 == t258) = false := beq_eq_false_iff_ne.mpr c8
      have c8b1 : (t257 != t258) = true := bne_iff_ne.mpr c8
      exact absurd ((Option.some.inj H).trans HT.out) (by decide)

end Go.Proofs.Ytlmabdiodopidaa.P
end
section
set_option linter.unusedVariables false
set_option linter.unusedSimpArgs false
namespace Go.Proofs.Ytlmabdiodopidaa.P
open Go.Proofs.Ytlmabdiodopidaa.G
attribute [local go_sem high] un_not64 un_noti run_add64
open Go.RowKit Go.Proofs.YtlmabdiodopidaaW.PrintWords Go.Proofs.YtlmabdiodopidaaW.PrintLast Go.Proofs.YtlmabdiodopidaaW.PrintMore
attribute [local go_sem] max2_int min2_int max_two min_two max_three min_three max_four min_four   -- for this text's walks alone
set_option linter.unusedVariables false
set_option linter.unusedSimpArgs false

/-! ### corebankref14_Slices: function 23 -/
mutual
def corebankref14_Slices.j0 : Nat → List (S50) → Bool → Int → List (S43) → Int → Bool → Option ((List (S43)))
  | 0, _, _, _, _, _, _ => none
  | k + 1, x0, x1, x2, x7, x8, x25 => if x25 = true then (some x7) else (if x1 = true then (corebankref14_Slices.l0 k x0 x7 x8 0) else ((corebankref14_Rate.f k x0 x2).bind fun t265 => (some (([(⟨x8, t265⟩ : S43)] : List (S43))))))
def corebankref14_Slices.l0 : Nat → List (S50) → List (S43) → Int → Int → Option ((List (S43)))
  | 0, _, _, _, _ => none
  | k + 1, x0, x7, x8, x9 => if x9 < (x0.length : Int) then (if (wrap64 (x9 + 1)) < (x0.length : Int) then (if 0 ≤ (wrap64 (x9 + 1)) then (corebankref14_Slices.j2 k x0 x7 x8 x9 x8 (decide (((rd_T50 x0 (wrap64 (x9 + 1))).f0) < x8))) else (none)) else (corebankref14_Slices.j2 k x0 x7 x8 x9 x8 false)) else (some x7)
def corebankref14_Slices.j2 : Nat → List (S50) → List (S43) → Int → Int → Int → Bool → Option ((List (S43)))
  | 0, _, _, _, _, _, _ => none
  | k + 1, x0, x7, x8, x9, x10, x56 => if x56 = true then (if 0 ≤ (wrap64 (x9 + 1)) then (if (wrap64 (x9 + 1)) < (x0.length : Int) then (if 0 ≤ x9 then (if x9 < (x0.length : Int) then (if ((rd_T50 x0 (wrap64 (x9 + 1))).f0) > ((rd_T50 x0 x9).f0) then (if x7.length < 8796093022208 then (corebankref14_Slices.l0 k x0 (x7 ++ [(⟨wrap64 (((rd_T50 x0 (wrap64 (x9 + 1))).f0) - ((rd_T50 x0 x9).f0)), (rd_T50 x0 x9).f1⟩ : S43)]) x8 (wrap64 (x9 + 1))) else (none)) else (corebankref14_Slices.l0 k x0 x7 x8 (wrap64 (x9 + 1)))) else (none)) else (none)) else (none)) else (none)) else (if 0 ≤ x9 then (if x9 < (x0.length : Int) then (if x10 > ((rd_T50 x0 x9).f0) then (if x7.length < 8796093022208 then (corebankref14_Slices.l0 k x0 (x7 ++ [(⟨wrap64 (x10 - ((rd_T50 x0 x9).f0)), (rd_T50 x0 x9).f1⟩ : S43)]) x8 (wrap64 (x9 + 1))) else (none)) else (corebankref14_Slices.l0 k x0 x7 x8 (wrap64 (x9 + 1)))) else (none)) else (none))
end
def corebankref14_Slices.f (k : Nat) (l0 : List (S50)) (a1 : Bool) (a2 : Int) : Option ((List (S43))) := (some (([] : List (S43)) : List (S43))).bind fun y260 => ((corebankref14_Size.f a2).bind fun t263 => ((corebankref14_Check.f k l0).bind fun t264 => (if t264 = 0 then (if (l0.length : Int) = 0 then (corebankref14_Slices.j0 k l0 a1 a2 y260 t263 true) else (corebankref14_Slices.j0 k l0 a1 a2 y260 t263 (t263 == 0))) else (corebankref14_Slices.j0 k l0 a1 a2 y260 t263 true))))
theorem corebankref14_Slices.mono_l : ∀ k, (∀ y0 y1 y2 y3 y4 y5, LeO (corebankref14_Slices.j0 k y0 y1 y2 y3 y4 y5) (corebankref14_Slices.j0 (k + 1) y0 y1 y2 y3 y4 y5)) ∧ (∀ y0 y1 y2 y3, LeO (corebankref14_Slices.l0 k y0 y1 y2 y3) (corebankref14_Slices.l0 (k + 1) y0 y1 y2 y3)) ∧ (∀ y0 y1 y2 y3 y4 y5, LeO (corebankref14_Slices.j2 k y0 y1 y2 y3 y4 y5) (corebankref14_Slices.j2 (k + 1) y0 y1 y2 y3 y4 y5))
  | 0 => ⟨fun _ _ _ _ _ _ r h => by simp [corebankref14_Slices.j0] at h, fun _ _ _ _ r h => by simp [corebankref14_Slices.l0] at h, fun _ _ _ _ _ _ r h => by simp [corebankref14_Slices.j2] at h⟩
  | k + 1 => by
    obtain ⟨ih0, ih1, ih2⟩ := corebankref14_Slices.mono_l k
    refine ⟨?_, ?_, ?_⟩
    · intro y0 y1 y2 y3 y4 y5
      unfold corebankref14_Slices.j0
      repeat' first
      | (with_reducible exact ih0 _ _ _ _ _ _)
      | (with_reducible exact ih1 _ _ _ _)
      | (with_reducible exact ih2 _ _ _ _ _ _)
      | (with_reducible exact corebankref14_Check.mono _ _)
      | (with_reducible exact corebankref14_Rate.mono _ _ _)
      | (with_reducible exact LeO.refl _)
      | (with_reducible exact LeO.none _)
      | (with_reducible refine LeO.ite ?_ ?_)
      | (with_reducible refine LeO.bind ?_ (fun _ => ?_))
      | exact ih0 _ _ _ _ _ _
      | exact ih1 _ _ _ _
      | exact ih2 _ _ _ _ _ _
      | exact corebankref14_Check.mono _ _
      | exact corebankref14_Rate.mono _ _ _
      | exact LeO.none _
      | refine LeO.ite ?_ ?_
      | refine LeO.bind ?_ (fun _ => ?_)
    · intro y0 y1 y2 y3
      unfold corebankref14_Slices.l0
      repeat' first
      | (with_reducible exact ih0 _ _ _ _ _ _)
      | (with_reducible exact ih1 _ _ _ _)
      | (with_reducible exact ih2 _ _ _ _ _ _)
      | (with_reducible exact corebankref14_Check.mono _ _)
      | (with_reducible exact corebankref14_Rate.mono _ _ _)
      | (with_reducible exact LeO.refl _)
      | (with_reducible exact LeO.none _)
      | (with_reducible refine LeO.ite ?_ ?_)
      | (with_reducible refine LeO.bind ?_ (fun _ => ?_))
      | exact ih0 _ _ _ _ _ _
      | exact ih1 _ _ _ _
      | exact ih2 _ _ _ _ _ _
      | exact corebankref14_Check.mono _ _
      | exact corebankref14_Rate.mono _ _ _
      | exact LeO.none _
      | refine LeO.ite ?_ ?_
      | refine LeO.bind ?_ (fun _ => ?_)
    · intro y0 y1 y2 y3 y4 y5
      unfold corebankref14_Slices.j2
      repeat' first
      | (with_reducible exact ih0 _ _ _ _ _ _)
      | (with_reducible exact ih1 _ _ _ _)
      | (with_reducible exact ih2 _ _ _ _ _ _)
      | (with_reducible exact corebankref14_Check.mono _ _)
      | (with_reducible exact corebankref14_Rate.mono _ _ _)
      | (with_reducible exact LeO.refl _)
      | (with_reducible exact LeO.none _)
      | (with_reducible refine LeO.ite ?_ ?_)
      | (with_reducible refine LeO.bind ?_ (fun _ => ?_))
      | exact ih0 _ _ _ _ _ _
      | exact ih1 _ _ _ _
      | exact ih2 _ _ _ _ _ _
      | exact corebankref14_Check.mono _ _
      | exact corebankref14_Rate.mono _ _ _
      | exact LeO.none _
      | refine LeO.ite ?_ ?_
      | refine LeO.bind ?_ (fun _ => ?_)
theorem corebankref14_Slices.mono : ∀ a0 a1 a2 k, LeO (corebankref14_Slices.f k a0 a1 a2) (corebankref14_Slices.f (k + 1) a0 a1 a2) := by
  intro a0 a1 a2 k
  obtain ⟨ih0, ih1, ih2⟩ := corebankref14_Slices.mono_l k
  unfold corebankref14_Slices.f
  repeat' first
      | (with_reducible exact ih0 _ _ _ _ _ _)
      | (with_reducible exact ih1 _ _ _ _)
      | (with_reducible exact ih2 _ _ _ _ _ _)
      | (with_reducible exact corebankref14_Check.mono _ _)
      | (with_reducible exact corebankref14_Rate.mono _ _ _)
      | (with_reducible exact LeO.refl _)
      | (with_reducible exact LeO.none _)
      | (with_reducible refine LeO.ite ?_ ?_)
      | (with_reducible refine LeO.bind ?_ (fun _ => ?_))
      | exact ih0 _ _ _ _ _ _
      | exact ih1 _ _ _ _
      | exact ih2 _ _ _ _ _ _
      | exact corebankref14_Check.mono _ _
      | exact corebankref14_Rate.mono _ _ _
      | exact LeO.none _
      | refine LeO.ite ?_ ?_
      | refine LeO.bind ?_ (fun _ => ?_)
def corebankref14_Slices.T14 : Bool × List (List Nat × List Nat) := (true, [([], []), ([], []), ([], []), ([], []), ([2, 3], [2, 3]), ([4], [4]), ([5], [5]), ([1, 6], [1, 6]), ([], []), ([], []), ([8, 9], [8, 9]), ([10], [10]), ([11], [11]), ([7, 12], [7, 12]), ([13], [13]), ([0, 14], [0, 14]), ([15, 15, 0, 1, 2, 3, 4, 5, 6, 7, 8, 9, 10, 11, 12, 13, 14, 15], [0, 15])])
def corebankref14_Slices.B14 : List Nat := [0, 0, 0, 0, 12, 28, 60, 126, 0, 0, 768, 1792, 3840, 8190, 16382, 32767, 65535]
theorem corebankref14_Slices.tab14 : rtab .any (opsOf Try.f23 14) = corebankref14_Slices.T14 := by kernel_rfl
theorem corebankref14_Slices.bits14 : waitsOk corebankref14_Slices.T14.2 corebankref14_Slices.B14 = true := by kernel_rfl
set_option maxHeartbeats 8000000 in
set_option maxRecDepth 100000 in
theorem corebankref14_Slices.calls (k : Nat) (A0 : Option Addr) (c0 : Nat) (l0 : List (S50)) (a1 : Bool) (a2 : Int) (r : List (S43)) (w : World) (hr0 : Kd.C k50 w A0 l0.length l0) (hc0 : l0.length ≤ c0) (h : corebankref14_Slices.f k l0 a1 a2 = some r) :
    Calls Try.prog 23 #[.slice A0 l0.length c0, .bool a1, .int .i64 a2] w fun e w' => ∃ v0_ : Value, e = .returned (v0_) ∧ Kd.R k43 43 w' w.heap.size (fun _ => True) v0_ r ∧ Below w.heap.size w w' := by
  have hu43 := Try.underlying43
  have HR0 := Aside0.mk hr0
  have HC0 := Aside0.mk hc0
  clear hr0 hc0
  have HB := Aside0.mk (Below.refl w.heap.size w)
  have H : ((some (([] : List (S43)) : List (S43))).bind fun y260 => ((corebankref14_Size.f a2).bind fun t263 => ((corebankref14_Check.f k l0).bind fun t264 => (if t264 = 0 then (if (l0.length : Int) = 0 then (corebankref14_Slices.j0 k l0 a1 a2 y260 t263 true) else (corebankref14_Slices.j0 k l0 a1 a2 y260 t263 (t263 == 0))) else (corebankref14_Slices.j0 k l0 a1 a2 y260 t263 true))))) = some r := h
  clear h
  obtain ⟨y260, hy260⟩ : ∃ y_ : List (S43), y_ = (([] : List (S43))) := ⟨_, rfl⟩
  replace H : ((corebankref14_Size.f a2).bind fun t263 => ((corebankref14_Check.f k l0).bind fun t264 => (if t264 = 0 then (if (l0.length : Int) = 0 then (corebankref14_Slices.j0 k l0 a1 a2 y260 t263 true) else (corebankref14_Slices.j0 k l0 a1 a2 y260 t263 (t263 == 0))) else (corebankref14_Slices.j0 k l0 a1 a2 y260 t263 true)))) = some r := by first | (rw [hy260]; with_reducible exact H) | (have H2_ := (Option.bind_some _ _).symm.trans H; rw [hy260]; with_reducible exact H2_) | (have H2_ := (Option.bind_some _ _).symm.trans H; with_reducible exact H2_) | with_reducible exact H | (rw [hy260]; exact H) | exact H
  have Ny260 := Aside0.mk hy260
  clear hy260
  replace H := Option.bind_eq_some_iff.mp H
  obtain ⟨t263, A40, H⟩ := H
  replace H : ((corebankref14_Check.f k l0).bind fun t264 => (if t264 = 0 then (if (l0.length : Int) = 0 then (corebankref14_Slices.j0 k l0 a1 a2 y260 t263 true) else (corebankref14_Slices.j0 k l0 a1 a2 y260 t263 (t263 == 0))) else (corebankref14_Slices.j0 k l0 a1 a2 y260 t263 true))) = some r := H
  have A4 := Aside0.mk A40
  clear A40
  have HC5 := Aside0.mk H
  clear H
  go_enter Try.func23, Try.ntmps23
  go_upto_region 3 with (first | ((with_reducible refine gate_dst (N := 11) rfl ?_); (try (refine gate_guard (by rfl) ?_; dsimp only)); refine Kd.R_lit k43 _ 43 ?hg (N := 11) ?hd (xs := ([] : List (S43))) (inner := []) (ok := fun _ => True) (okp := fun _ => True) ?hr ?hp (fun _ hk => hk) trivial (Below.refl _ _) (Nat.le_refl _) (by simp) ?_; (case hd => rfl); (case hg => rfl); (case hr => first | (go_simp; done) | (go_simp; rfl)); (case hp => exact (Reps.none _ _)); intro v261 w6 ho7 hb hg_ hnew_; clear hg_ hnew_; (first | rw [← Ny260.out] at ho7 | (simp only [Int.reduceToNat] at ho7; rw [← Ny260.out] at ho7)); have HO262 := Aside0.mk (Kd.R_lower ho7 (below_size (hq HB))); replace HB := bs HB hb; clear hb ho7) | ((with_reducible refine gate_callee (f := 26) rfl ?_); refine goesL_ (some 13) rfl rfl Try.func26 (by kernel_rfl) rfl #[.int .i64 a2] rfl zm ?_; (with_reducible refine (corebankref14_Size.calls a2 t263 _ A4.out).mono ?_); rintro e w' ⟨rfl, ⟨nd, rfl⟩⟩; refine ⟨_, rfl, ?_⟩))
  (try simp only [Act.put, List.setIfInBounds_toArray, List.set_cons_zero, List.set_cons_succ])
  go_cut [25] (fun v25 wc => ∃ (kq : Nat) (x25_4 : Bool), v25 = .bool x25_4 ∧ Aside0 (corebankref14_Slices.j0 kq l0 a1 a2 y260 t263 x25_4 = some r) ∧ Aside0 (kq ≤ k) ∧ Aside0 (Kd.R k43 43 wc w.heap.size (fun _ => True) v261 y260) ∧ Aside0 (Below w.heap.size w wc))
  case first =>
    have H := HC5.out
    clear HC5
    replace H := Option.bind_eq_some_iff.mp H
    obtain ⟨t264, A80, H⟩ := H
    replace H : (if t264 = 0 then (if (l0.length : Int) = 0 then (corebankref14_Slices.j0 k l0 a1 a2 y260 t263 true) else (corebankref14_Slices.j0 k l0 a1 a2 y260 t263 (t263 == 0))) else (corebankref14_Slices.j0 k l0 a1 a2 y260 t263 true)) = some r := H
    have A8 := Aside0.mk A80
    clear A80
    by_cases c9 : t264 = 0
    · rw [if_pos c9] at H
      have c9b0 : (t264 == 0) = true := beq_iff_eq.mpr c9
      have c9b1 : (t264 != 0) = false := bne_eq_false_iff_eq.mpr c9
      clear c9
      (first | rw [c9b0] | (simp only [i64_w, i32_w]; rw [c9b0]) | skip)
      by_cases c10 : (l0.length : Int) = 0
      · rw [if_pos c10] at H
        have c10b0 : ((l0.length : Int) == 0) = true := beq_iff_eq.mpr c10
        have c10b1 : ((l0.length : Int) != 0) = false := bne_eq_false_iff_eq.mpr c10
        clear c10
        have H' := Aside0.mk H
        clear H
        go_wp2_with (first | ((with_reducible refine gate_callee (f := 17) rfl ?_); refine goesL_ (some 15) rfl rfl Try.func17 (by kernel_rfl) rfl #[.slice A0 l0.length c0] rfl zm ?_; (with_reducible refine (corebankref14_Check.calls k _ _ l0 t264 _ ?side1 ?side2 A8.out).mono ?_); (case side1 => repeat (first | exact (Kd.C_below HR0.out HB.out) | (with_reducible refine Kd.C_alloc ?_ _) | (with_reducible refine Kd.C_drewN ?_ _) | (with_reducible refine Kd.C_drew ?_))); (case side2 => exact HC0.out); rintro e w' ⟨rfl, ⟨nd, rfl⟩⟩; refine ⟨_, rfl, ?_⟩))
        go_meet
        case rel => exact ⟨_, (true), (by first | rfl | (simp; done) | (simp [*]; done)), H', ⟨by first | omega | exact Nat.le_refl _⟩, ⟨by (with_reducible repeat (first | apply Kd.R_alloc | apply Kd.R_drewN | apply Kd.R_drew)); exact HO262.out⟩, ⟨hq HB⟩⟩
      · rw [if_neg c10] at H
        have c10b0 : ((l0.length : Int) == 0) = false := beq_eq_false_iff_ne.mpr c10
        have c10b1 : ((l0.length : Int) != 0) = true := bne_iff_ne.mpr c10
        have c10b2 : ¬ (l0 = []) := fun h_ => c10 (by rw [h_]; rfl)
        have H' := Aside0.mk H
        clear H
        go_wp2_with (first | ((with_reducible refine gate_callee (f := 17) rfl ?_); refine goesL_ (some 15) rfl rfl Try.func17 (by kernel_rfl) rfl #[.slice A0 l0.length c0] rfl zm ?_; (with_reducible refine (corebankref14_Check.calls k _ _ l0 t264 _ ?side1 ?side2 A8.out).mono ?_); (case side1 => repeat (first | exact (Kd.C_below HR0.out HB.out) | (with_reducible refine Kd.C_alloc ?_ _) | (with_reducible refine Kd.C_drewN ?_ _) | (with_reducible refine Kd.C_drew ?_))); (case side2 => exact HC0.out); rintro e w' ⟨rfl, ⟨nd, rfl⟩⟩; refine ⟨_, rfl, ?_⟩))
        go_meet
        case rel => exact ⟨_, ((t263 == 0)), (by first | rfl | (simp; done) | (simp [*]; done)), H', ⟨by first | omega | exact Nat.le_refl _⟩, ⟨by (with_reducible repeat (first | apply Kd.R_alloc | apply Kd.R_drewN | apply Kd.R_drew)); exact HO262.out⟩, ⟨hq HB⟩⟩
    · rw [if_neg c9] at H
      have c9b0 : (t264 == 0) = false := beq_eq_false_iff_ne.mpr c9
      have c9b1 : (t264 != 0) = true := bne_iff_ne.mpr c9
      (first | rw [c9b0] | (simp only [i64_w, i32_w]; rw [c9b0]) | skip)
      have H' := Aside0.mk H
      clear H
      go_wp2_with (first | ((with_reducible refine gate_callee (f := 17) rfl ?_); refine goesL_ (some 15) rfl rfl Try.func17 (by kernel_rfl) rfl #[.slice A0 l0.length c0] rfl zm ?_; (with_reducible refine (corebankref14_Check.calls k _ _ l0 t264 _ ?side1 ?side2 A8.out).mono ?_); (case side1 => repeat (first | exact (Kd.C_below HR0.out HB.out) | (with_reducible refine Kd.C_alloc ?_ _) | (with_reducible refine Kd.C_drewN ?_ _) | (with_reducible refine Kd.C_drew ?_))); (case side2 => exact HC0.out); rintro e w' ⟨rfl, ⟨nd, rfl⟩⟩; refine ⟨_, rfl, ?_⟩))
      go_meet
      case rel => exact ⟨_, (true), (by first | rfl | (simp; done) | (simp [*]; done)), H', ⟨by first | omega | exact Nat.le_refl _⟩, ⟨by (with_reducible repeat (first | apply Kd.R_alloc | apply Kd.R_drewN | apply Kd.R_drew)); exact HO262.out⟩, ⟨hq HB⟩⟩
  case rest =>
    clear HC5
    try clear c1
    try clear c2
    try clear p2
    try clear c9
    try clear c9b0
    try clear c9b1
    try clear c10
    try clear c10b0
    try clear c10b1
    try clear c10b2
    obtain ⟨kq, x25_4, rfl, HA, HJ4, HO_7, HB⟩ := hcut
    cases kq with
    | zero => exact absurd HA.out (by simp [corebankref14_Slices.j0])
    | succ kj4 =>
      have H := HA.out
      clear HA
      simp only [corebankref14_Slices.j0] at H
      by_cases c11 : x25_4 = true
      · subst c11
        have H1 : (some y260) = some r := by rw [if_pos rfl] at H; exact H
        clear H
        have H := H1
        clear H1
        obtain rfl := Option.some.inj H
        go_wp2
        go_ret
        exact ⟨_, by first | rfl | (simp [errW_none, errW_some] <;> rfl) | (simp [*, errW_none, errW_some] <;> rfl), by (with_reducible repeat (first | apply Kd.R_alloc | apply Kd.R_drewN | apply Kd.R_drew)); exact HO_7.out, hq HB⟩
      · replace c11 := Bool.eq_false_iff.mpr c11
        subst c11
        have H1 : (if a1 = true then (corebankref14_Slices.l0 kj4 l0 y260 t263 0) else ((corebankref14_Rate.f kj4 l0 a2).bind fun t265 => (some (([(⟨t263, t265⟩ : S43)] : List (S43)))))) = some r := by rw [if_neg (show ¬ (false = true) by decide)] at H; exact H
        clear H
        have H := H1
        clear H1
        by_cases c12 : a1 = true
        · subst c12
          have H1 : (corebankref14_Slices.l0 kj4 l0 y260 t263 0) = some r := by rw [if_pos rfl] at H; exact H
          clear H
          have H := H1
          clear H1
          have H' := Aside0.mk H
          clear H
          go_wp2
          go_loopg [7, 9] kj4 (fun kq v7 v9 w' => ∃ (x7_2 : List (S43)) (x9_2 : Int), v9 = .int .i64 x9_2 ∧ Aside0 (corebankref14_Slices.l0 kq l0 x7_2 t263 x9_2 = some r) ∧ Aside0 (kq ≤ kj4) ∧ Aside0 (Kd.R k43 43 w' w.heap.size (fun _ => True) v7 x7_2) ∧ Aside0 (Below w.heap.size w w'))
          case atStart => exact ⟨(y260), (0), (by first | rfl | (simp; done) | (simp [*]; done)), H', ⟨Nat.le_refl _⟩, ⟨by (with_reducible repeat (first | apply Kd.R_alloc | apply Kd.R_drewN | apply Kd.R_drew)); exact HO_7.out⟩, ⟨hq HB⟩⟩
          case round =>
            clear H'
            try clear c1
            try clear c2
            try clear p2
            try clear c9
            try clear c9b0
            try clear c9b1
            try clear c10
            try clear c10b0
            try clear c10b1
            try clear c10b2
            try clear c11
            try clear c12
            try clear p2
            obtain ⟨x7_2, x9_2, rfl, HA, HK2, HO_7, HB⟩ := hrel
            cases gk with
            | zero => exact absurd HA.out (by simp [corebankref14_Slices.l0])
            | succ k2 =>
              have H := HA.out
              clear HA
              simp only [corebankref14_Slices.l0] at H
              by_cases c13 : x9_2 < (l0.length : Int)
              · rw [if_pos c13] at H
                have c13b0 : decide (x9_2 < (l0.length : Int)) = true := decide_eq_true c13
                clear c13
                have HC14 := Aside0.mk H
                clear H
                go_upto_region 11 with (fail)
                go_cut [56] (fun v56 wc => ∃ (kq : Nat) (x56_13 : Bool), v56 = .bool x56_13 ∧ Aside0 (corebankref14_Slices.j2 kq l0 x7_2 t263 x9_2 t263 x56_13 = some r) ∧ Aside0 (kq ≤ k2) ∧ Aside0 (Kd.R k43 43 wc w.heap.size (fun _ => True) u7 x7_2) ∧ Aside0 (Below w.heap.size w wc))
                case first =>
                  have H := HC14.out
                  clear HC14
                  by_cases c15 : (wrap64 (x9_2 + 1)) < (l0.length : Int)
                  · rw [if_pos c15] at H
                    have c15b0 : decide ((wrap64 (x9_2 + 1)) < (l0.length : Int)) = true := decide_eq_true c15
                    clear c15
                    (first | rw [c15b0] | (simp only [i64_w, i32_w]; rw [c15b0]) | skip)
                    obtain ⟨ji16, hji16⟩ : ∃ j_ : Int, (wrap64 (x9_2 + 1)) = j_ := ⟨_, rfl⟩
                    replace H : (if 0 ≤ (ji16) then (corebankref14_Slices.j2 k2 l0 x7_2 t263 x9_2 t263 (decide (((rd_T50 l0 (ji16)).f0) < t263))) else (none)) = some r := by first | (rw [hji16] at H; exact H) | (simp only [hji16] at H ⊢; exact H)
                    (try rw [hji16] at c15b0)
                    have hji16w : (IntKind.i64.wrap (x9_2 + 1)) = ji16 := (i64_w _).trans hji16
                    by_cases c17 : 0 ≤ (ji16)
                    · rw [if_pos c17] at H
                      have c17b0 : decide (0 ≤ (ji16)) = true := decide_eq_true c17
                      clear c17
                      have H' := Aside0.mk H
                      clear H
                      have p269 : 0 ≤ ((ji16) : Int) := of_decide_eq_true (by first | (with_reducible assumption) | assumption)
                      have q269 : (ji16) < (l0.length : Int) := of_decide_eq_true (by first | (with_reducible assumption) | assumption)
                      obtain ⟨ad269, e269, hx269_0, hx269_1⟩ := at_T50 HR0.out (ji16) p269 q269
                      cases e269
                      replace hx269_0 := (HB.out.cell (World.block_lt_of_cell? w _ hx269_0)).trans hx269_0
                      replace hx269_1 := (HB.out.cell (World.block_lt_of_cell? w _ hx269_1)).trans hx269_1
                      replace p269 := eq_true p269
                      replace q269 := eq_true q269
                      go_wp2
                      go_meet
                      case rel => exact ⟨_, (decide (((rd_T50 l0 (ji16)).f0) < t263)), (by first | rfl | (simp; done) | (simp only [← hji16] <;> (first | rfl | simp)) | (simp [*]; done)), H', ⟨by have := HJ4.out; have := HK2.out; first | omega | exact Nat.le_refl _⟩, ⟨by (with_reducible repeat (first | apply Kd.R_alloc | apply Kd.R_drewN | apply Kd.R_drew)); exact HO_7.out⟩, ⟨hq HB⟩⟩
                    · rw [if_neg c17] at H
                      exact absurd H (by simp)
                  · rw [if_neg c15] at H
                    have c15b0 : decide ((wrap64 (x9_2 + 1)) < (l0.length : Int)) = false := decide_eq_false c15
                    clear c15
                    (first | rw [c15b0] | (simp only [i64_w, i32_w]; rw [c15b0]) | skip)
                    have H' := Aside0.mk H
                    clear H
                    go_wp2
                    go_meet
                    case rel => exact ⟨_, (false), (by first | rfl | (simp; done) | (simp [*]; done)), H', ⟨by have := HJ4.out; have := HK2.out; first | omega | exact Nat.le_refl _⟩, ⟨by (with_reducible repeat (first | apply Kd.R_alloc | apply Kd.R_drewN | apply Kd.R_drew)); exact HO_7.out⟩, ⟨hq HB⟩⟩
                case rest =>
                  clear HC14
                  try clear c1
                  try clear c2
                  try clear p2
                  try clear q2
                  try clear hx2
                  try clear p6
                  try clear c9
                  try clear c9b0
                  try clear c9b1
                  try clear c10
                  try clear c10b0
                  try clear c10b1
                  try clear c10b2
                  try clear c11
                  try clear c12
                  try clear c13
                  try clear c13b0
                  try clear c15
                  try clear c15b0
                  try clear c17
                  try clear c17b0
                  try clear hx269_0
                  try clear hx269_1
                  try clear p2
                  try clear p269
                  try clear q269
                  obtain ⟨kq, x56_13, rfl, HA, HJ13, HO_7, HB⟩ := hcut
                  cases kq with
                  | zero => exact absurd HA.out (by simp [corebankref14_Slices.j2])
                  | succ kj13 =>
                    have H := HA.out
                    clear HA
                    simp only [corebankref14_Slices.j2] at H
                    by_cases c18 : x56_13 = true
                    · subst c18
                      have H1 : (if 0 ≤ (wrap64 (x9_2 + 1)) then (if (wrap64 (x9_2 + 1)) < (l0.length : Int) then (if 0 ≤ x9_2 then (if x9_2 < (l0.length : Int) then (if ((rd_T50 l0 (wrap64 (x9_2 + 1))).f0) > ((rd_T50 l0 x9_2).f0) then (if x7_2.length < 8796093022208 then (corebankref14_Slices.l0 kj13 l0 (x7_2 ++ [(⟨wrap64 (((rd_T50 l0 (wrap64 (x9_2 + 1))).f0) - ((rd_T50 l0 x9_2).f0)), (rd_T50 l0 x9_2).f1⟩ : S43)]) t263 (wrap64 (x9_2 + 1))) else (none)) else (corebankref14_Slices.l0 kj13 l0 x7_2 t263 (wrap64 (x9_2 + 1)))) else (none)) else (none)) else (none)) else (none)) = some r := by rw [if_pos rfl] at H; exact H
                      clear H
                      have H := H1
                      clear H1
                      obtain ⟨ji19, hji19⟩ : ∃ j_ : Int, (wrap64 (x9_2 + 1)) = j_ := ⟨_, rfl⟩
                      replace H : (if 0 ≤ (ji19) then (if (ji19) < (l0.length : Int) then (if 0 ≤ x9_2 then (if x9_2 < (l0.length : Int) then (if ((rd_T50 l0 (ji19)).f0) > ((rd_T50 l0 x9_2).f0) then (if x7_2.length < 8796093022208 then (corebankref14_Slices.l0 kj13 l0 (x7_2 ++ [(⟨wrap64 (((rd_T50 l0 (ji19)).f0) - ((rd_T50 l0 x9_2).f0)), (rd_T50 l0 x9_2).f1⟩ : S43)]) t263 ji19) else (none)) else (corebankref14_Slices.l0 kj13 l0 x7_2 t263 ji19)) else (none)) else (none)) else (none)) else (none)) = some r := by first | (rw [hji19] at H; exact H) | (simp only [hji19] at H ⊢; exact H)
                      have hji19w : (IntKind.i64.wrap (x9_2 + 1)) = ji19 := (i64_w _).trans hji19
                      by_cases c20 : 0 ≤ (ji19)
                      · rw [if_pos c20] at H
                        have c20b0 : decide (0 ≤ (ji19)) = true := decide_eq_true c20
                        clear c20
                        by_cases c21 : (ji19) < (l0.length : Int)
                        · rw [if_pos c21] at H
                          have c21b0 : decide ((ji19) < (l0.length : Int)) = true := decide_eq_true c21
                          clear c21
                          by_cases c22 : 0 ≤ x9_2
                          · rw [if_pos c22] at H
                            have c22b0 : decide (0 ≤ x9_2) = true := decide_eq_true c22
                            clear c22
                            by_cases c23 : x9_2 < (l0.length : Int)
                            · rw [if_pos c23] at H
                              have c23b0 : decide (x9_2 < (l0.length : Int)) = true := decide_eq_true c23
                              clear c23
                              by_cases c24 : ((rd_T50 l0 (ji19)).f0) > ((rd_T50 l0 x9_2).f0)
                              · rw [if_pos c24] at H
                                have c24b0 : decide (((rd_T50 l0 x9_2).f0) < ((rd_T50 l0 (ji19)).f0)) = true := decide_eq_true c24
                                clear c24
                                by_cases c25 : x7_2.length < 8796093022208
                                · rw [if_pos c25] at H
                                  have LMc25 := Aside0.mk c25
                                  clear c25
                                  obtain ⟨y274, hy274⟩ : ∃ y_ : List (S43), y_ = (x7_2 ++ [(⟨wrap64 (((rd_T50 l0 (ji19)).f0) - ((rd_T50 l0 x9_2).f0)), (rd_T50 l0 x9_2).f1⟩ : S43)]) := ⟨_, rfl⟩
                                  replace H : (corebankref14_Slices.l0 kj13 l0 y274 t263 ji19) = some r := by first | (rw [hy274]; with_reducible exact H) | (have H2_ := (Option.bind_some _ _).symm.trans H; rw [hy274]; with_reducible exact H2_) | (have H2_ := (Option.bind_some _ _).symm.trans H; with_reducible exact H2_) | with_reducible exact H | (rw [hy274]; exact H) | exact H
                                  have Ny274 := Aside0.mk hy274
                                  clear hy274
                                  have H' := Aside0.mk H
                                  clear H
                                  have p270 : 0 ≤ ((ji19) : Int) := of_decide_eq_true (by first | (with_reducible assumption) | assumption)
                                  have q270 : (ji19) < (l0.length : Int) := of_decide_eq_true (by first | (with_reducible assumption) | assumption)
                                  obtain ⟨ad270, e270, hx270_0, hx270_1⟩ := at_T50 HR0.out (ji19) p270 q270
                                  cases e270
                                  replace hx270_0 := (HB.out.cell (World.block_lt_of_cell? w _ hx270_0)).trans hx270_0
                                  replace hx270_1 := (HB.out.cell (World.block_lt_of_cell? w _ hx270_1)).trans hx270_1
                                  replace p270 := eq_true p270
                                  replace q270 := eq_true q270
                                  have p271 : 0 ≤ (x9_2 : Int) := of_decide_eq_true (by first | (with_reducible assumption) | assumption)
                                  have q271 : x9_2 < (l0.length : Int) := of_decide_eq_true (by first | (with_reducible assumption) | assumption)
                                  obtain ⟨ad271, e271, hx271_0, hx271_1⟩ := at_T50 HR0.out x9_2 p271 q271
                                  obtain rfl : ad270 = ad271 := (by injection e271)
                                  replace hx271_0 := (HB.out.cell (World.block_lt_of_cell? w _ hx271_0)).trans hx271_0
                                  replace hx271_1 := (HB.out.cell (World.block_lt_of_cell? w _ hx271_1)).trans hx271_1
                                  replace p271 := eq_true p271
                                  replace q271 := eq_true q271
                                  try go_wp2
                                  replace HO_7 := Aside0.mk (Kd.R_drew HO_7.out)
                                  replace HB := hb1 HB
                                  have p272 : 0 ≤ (x9_2 : Int) := of_decide_eq_true (by first | (with_reducible assumption) | assumption)
                                  have q272 : x9_2 < (l0.length : Int) := of_decide_eq_true (by first | (with_reducible assumption) | assumption)
                                  obtain ⟨ad272, e272, hx272_0, hx272_1⟩ := at_T50 HR0.out x9_2 p272 q272
                                  have hw272_1 := hx272_1
                                  have hw272_0 := hx272_0
                                  obtain rfl : ad270 = ad272 := (by injection e272)
                                  replace hx272_0 := (HB.out.cell (World.block_lt_of_cell? w _ hx272_0)).trans hx272_0
                                  replace hx272_1 := (HB.out.cell (World.block_lt_of_cell? w _ hx272_1)).trans hx272_1
                                  replace p272 := eq_true p272
                                  replace q272 := eq_true q272
                                  have p273 : 0 ≤ (x9_2 : Int) := of_decide_eq_true (by first | (with_reducible assumption) | assumption)
                                  have q273 : x9_2 < (l0.length : Int) := of_decide_eq_true (by first | (with_reducible assumption) | assumption)
                                  obtain ⟨ad273, e273, hx273_0, hx273_1⟩ := at_T50 HR0.out x9_2 p273 q273
                                  have hw273_1 := hx273_1
                                  have hw273_0 := hx273_0
                                  obtain rfl : ad270 = ad273 := (by injection e273)
                                  replace hx273_0 := (HB.out.cell (World.block_lt_of_cell? w _ hx273_0)).trans hx273_0
                                  replace hx273_1 := (HB.out.cell (World.block_lt_of_cell? w _ hx273_1)).trans hx273_1
                                  replace p273 := eq_true p273
                                  replace q273 := eq_true q273
                                  refine start_ (n := 17) (S := fun w' => w'.cell? (ad270.add ((x9_2).toNat * 2)) = some (.int .i64 ((rd_T50 l0 x9_2).f0)) ∧ w'.cell? ⟨(ad270.add ((x9_2).toNat * 2)).block, (ad270.add ((x9_2).toNat * 2)).off + 1, none⟩ = some (.int .i64 ((rd_T50 l0 x9_2).f1)) ∧ w'.cell? (ad270.add ((x9_2).toNat * 2)) = some (.int .i64 ((rd_T50 l0 x9_2).f0)) ∧ w'.cell? ⟨(ad270.add ((x9_2).toNat * 2)).block, (ad270.add ((x9_2).toNat * 2)).off + 1, none⟩ = some (.int .i64 ((rd_T50 l0 x9_2).f1))) (ds := []) #[false, false, false, false, false, false, false, false, false, false, false, false, false, false, false, false, false] (by kernel_rfl) rfl rfl ⟨((HB.out.cell (World.block_lt_of_cell? w _ hw272_0)).trans hw272_0), ((HB.out.cell (World.block_lt_of_cell? w _ hw272_1)).trans hw272_1), ((HB.out.cell (World.block_lt_of_cell? w _ hw273_0)).trans hw273_0), ((HB.out.cell (World.block_lt_of_cell? w _ hw273_1)).trans hw273_1)⟩ (fun hHeld => ?_); refine with_tabW corebankref14_Slices.tab14 corebankref14_Slices.bits14 (fun HT_ HW_ => ?_)
                                  generalize wc.drew = w26 at HO_7 HB hx272_0 hx272_1 hx273_0 hx273_1 hHeld ⊢
                                  refine pz (i := 0) (N := some 70) #[true, false, false, false, false, false, false, false, false, false, false, false, false, false, false, false, false] rfl rfl (any_of HT_.out (by kernel_rfl)) (fun _ _ _ h => h) ?_
                                  refine pz (i := 1) (N := some 71) #[true, true, false, false, false, false, false, false, false, false, false, false, false, false, false, false, false] rfl rfl (any_of HT_.out (by kernel_rfl)) (fun _ _ _ h => h) ?_
                                  refine pz (i := 2) (N := some 72) #[true, true, true, false, false, false, false, false, false, false, false, false, false, false, false, false, false] rfl rfl (any_of HT_.out (by kernel_rfl)) (fun _ _ _ h => h) ?_
                                  refine pz (i := 3) (N := some 73) #[true, true, true, true, false, false, false, false, false, false, false, false, false, false, false, false, false] rfl rfl (any_of HT_.out (by kernel_rfl)) (fun _ _ _ h => h) ?_
                                  refine pz (i := 4) (N := some 74) #[true, true, true, true, true, false, false, false, false, false, false, false, false, false, false, false, false] rfl rfl (any_of HT_.out (by kernel_rfl)) (fun _ _ _ h => h) ?_
                                  refine pz (i := 5) (N := some 75) #[true, true, true, true, true, true, false, false, false, false, false, false, false, false, false, false, false] rfl rfl (any_of HT_.out (by kernel_rfl)) (fun _ _ _ h => h) ?_
                                  refine pz (i := 8) (N := some 78) #[true, true, true, true, true, true, false, false, true, false, false, false, false, false, false, false, false] rfl rfl (any_of HT_.out (by kernel_rfl)) (fun _ _ _ h => h) ?_
                                  refine pz (i := 9) (N := some 79) #[true, true, true, true, true, true, false, false, true, true, false, false, false, false, false, false, false] rfl rfl (any_of HT_.out (by kernel_rfl)) (fun _ _ _ h => h) ?_
                                  refine pz (i := 10) (N := some 80) #[true, true, true, true, true, true, false, false, true, true, true, false, false, false, false, false, false] rfl rfl (any_of HT_.out (by kernel_rfl)) (fun _ _ _ h => h) ?_
                                  refine pz (i := 11) (N := some 81) #[true, true, true, true, true, true, false, false, true, true, true, true, false, false, false, false, false] rfl rfl (any_of HT_.out (by kernel_rfl)) (fun _ _ _ h => h) ?_
                                  refine tz4 (i := 6) (N := some 76) #[true, true, true, true, true, true, true, false, true, true, true, true, false, false, false, false, false] rfl rfl (take_ofW HT_.out HW_.out (by kernel_rfl)) (fun _ _ _ h => h) hHeld ?_
                                  refine pz (i := 7) (N := some 77) #[true, true, true, true, true, true, true, true, true, true, true, true, false, false, false, false, false] rfl rfl (any_of HT_.out (by kernel_rfl)) (fun _ _ _ h => h) ?_
                                  refine tz4 (i := 12) (N := some 82) #[true, true, true, true, true, true, true, true, true, true, true, true, true, false, false, false, false] rfl rfl (take_ofW HT_.out HW_.out (by kernel_rfl)) (fun _ _ _ h => h) hHeld ?_
                                  refine pz (i := 13) (N := some 83) #[true, true, true, true, true, true, true, true, true, true, true, true, true, true, false, false, false] rfl rfl (any_of HT_.out (by kernel_rfl)) (fun _ _ _ h => h) ?_
                                  refine one_ (i := 14) (N := some 84) #[true, true, true, true, true, true, true, true, true, true, true, true, true, true, true, false, false] rfl rfl (one_of HT_.out (by kernel_rfl)) (by decide) (fun K hK => ?_)
                                  refine value_ (w1 := ?_) (v := ?_) (by rfl) rfl ?_ ?_
                                  rotate_left 2
                                  · go_simp
                                    constructor
                                    · rfl
                                    · rfl
                                  refine hK.out _ _ ⟨(World.cell?_alloc_lt _ _ _ (World.block_lt_of_cell? _ _ (((HB.out.cell (World.block_lt_of_cell? w _ hw272_0)).trans hw272_0)))).trans (((HB.out.cell (World.block_lt_of_cell? w _ hw272_0)).trans hw272_0)), (World.cell?_alloc_lt _ _ _ (World.block_lt_of_cell? _ _ (((HB.out.cell (World.block_lt_of_cell? w _ hw272_1)).trans hw272_1)))).trans (((HB.out.cell (World.block_lt_of_cell? w _ hw272_1)).trans hw272_1)), (World.cell?_alloc_lt _ _ _ (World.block_lt_of_cell? _ _ (((HB.out.cell (World.block_lt_of_cell? w _ hw273_0)).trans hw273_0)))).trans (((HB.out.cell (World.block_lt_of_cell? w _ hw273_0)).trans hw273_0)), (World.cell?_alloc_lt _ _ _ (World.block_lt_of_cell? _ _ (((HB.out.cell (World.block_lt_of_cell? w _ hw273_1)).trans hw273_1)))).trans (((HB.out.cell (World.block_lt_of_cell? w _ hw273_1)).trans hw273_1))⟩ (fun hHeld => ?_)
                                  clear hK K
                                  refine norm_ (a' := ?_) ?_ ?_
                                  rotate_left
                                  · show Act.put _ (some 84) _ = _
                                    simp only [Act.put, List.setIfInBounds_toArray, List.set_cons_zero, List.set_cons_succ, i64_w, i32_w]
                                    rfl
                                  refine one_ (i := 15) (N := some 85) #[true, true, true, true, true, true, true, true, true, true, true, true, true, true, true, true, false] rfl rfl (one_of HT_.out (by kernel_rfl)) (by decide) (fun K hK => ?_)
                                  refine Kd.R_append_step k43 (w0 := w) w.heap.size (by rfl) (.tmp 70) (.tmp 84) 30 43 (.agg #[(.int .i64 0), (.int .i64 0)]) 16 rfl Try.underlying30 info43 rfl (by decide) (by omega) u7 x7_2 (⟨wrap64 (((rd_T50 l0 (ji19)).f0) - ((rd_T50 l0 x9_2).f0)), (rd_T50 l0 x9_2).f1⟩ : S43) [.int .i64 (wrap64 (((rd_T50 l0 (ji19)).f0) - ((rd_T50 l0 x9_2).f0))), .int .i64 ((rd_T50 l0 x9_2).f1)] (fun _ => True) (fun _ => False) rfl rfl ?aP (fun _ hk => hk.elim) ?aF ?aO ?aB ?aS ?aL ?_
                                  (case aP => exact k43_mkM _ _ _ (⟨wrap64 (((rd_T50 l0 (ji19)).f0) - ((rd_T50 l0 x9_2).f0)), (rd_T50 l0 x9_2).f1⟩ : S43))
                                  (case aB => exact (hq HB))
                                  (case aF => exact (fun _ _ => trivial))
                                  (case aO => exact (kq HO_7))
                                  (case aS => exact (below_size (hq HB)))
                                  (case aL => have := LMc25.out; omega)
                                  intro v275 w27 ho hb hg hat
                                  rw [← Ny274.out] at ho
                                  have HO276 := Aside0.mk (ho)
                                  replace HB := Aside0.mk (hb)
                                  clear HO_7
                                  clear ho hb hg hat
                                  refine hK.out _ _ ⟨((HB.out.cell (World.block_lt_of_cell? w _ hw272_0)).trans hw272_0), ((HB.out.cell (World.block_lt_of_cell? w _ hw272_1)).trans hw272_1), ((HB.out.cell (World.block_lt_of_cell? w _ hw273_0)).trans hw273_0), ((HB.out.cell (World.block_lt_of_cell? w _ hw273_1)).trans hw273_1)⟩ (fun hHeld => ?_)
                                  clear hK K
                                  refine norm_ (a' := ?_) ?_ ?_
                                  rotate_left
                                  · show Act.put _ (some 85) _ = _
                                    simp only [Act.put, List.setIfInBounds_toArray, List.set_cons_zero, List.set_cons_succ, i64_w, i32_w]
                                    rfl
                                  refine pz (i := 16) (N := some 7) #[true, true, true, true, true, true, true, true, true, true, true, true, true, true, true, true, true] rfl rfl (any_of HT_.out (by kernel_rfl)) (fun _ _ _ h => h) ?_
                                  refine done_ (done_of HT_.out (by kernel_rfl)) ?_
                                  try go_wp2
                                  go_roundg kj13
                                  case measure => have := HJ4.out; have := HK2.out; have := HJ13.out; omega
                                  case rel => exact ⟨(y274), (ji19), (by first | rfl | (simp; done) | (simp only [← hji19] <;> (first | rfl | simp)) | (simp [*]; done)), H', ⟨by have := HJ4.out; have := HK2.out; have := HJ13.out; omega⟩, ⟨by (with_reducible repeat (first | apply Kd.R_alloc | apply Kd.R_drewN | apply Kd.R_drew)); exact HO276.out⟩, ⟨hq HB⟩⟩
                                · rw [if_neg c25] at H
                                  exact absurd H (by simp)
                              · rw [if_neg c24] at H
                                have c24b0 : decide (((rd_T50 l0 x9_2).f0) < ((rd_T50 l0 (ji19)).f0)) = false := decide_eq_false c24
                                clear c24
                                have H' := Aside0.mk H
                                clear H
                                have p270 : 0 ≤ ((ji19) : Int) := of_decide_eq_true (by first | (with_reducible assumption) | assumption)
                                have q270 : (ji19) < (l0.length : Int) := of_decide_eq_true (by first | (with_reducible assumption) | assumption)
                                obtain ⟨ad270, e270, hx270_0, hx270_1⟩ := at_T50 HR0.out (ji19) p270 q270
                                cases e270
                                replace hx270_0 := (HB.out.cell (World.block_lt_of_cell? w _ hx270_0)).trans hx270_0
                                replace hx270_1 := (HB.out.cell (World.block_lt_of_cell? w _ hx270_1)).trans hx270_1
                                replace p270 := eq_true p270
                                replace q270 := eq_true q270
                                have p271 : 0 ≤ (x9_2 : Int) := of_decide_eq_true (by first | (with_reducible assumption) | assumption)
                                have q271 : x9_2 < (l0.length : Int) := of_decide_eq_true (by first | (with_reducible assumption) | assumption)
                                obtain ⟨ad271, e271, hx271_0, hx271_1⟩ := at_T50 HR0.out x9_2 p271 q271
                                obtain rfl : ad270 = ad271 := (by injection e271)
                                replace hx271_0 := (HB.out.cell (World.block_lt_of_cell? w _ hx271_0)).trans hx271_0
                                replace hx271_1 := (HB.out.cell (World.block_lt_of_cell? w _ hx271_1)).trans hx271_1
                                replace p271 := eq_true p271
                                replace q271 := eq_true q271
                                go_wp2
                                go_roundg kj13
                                case measure => have := HJ4.out; have := HK2.out; have := HJ13.out; omega
                                case rel => exact ⟨(x7_2), (ji19), (by first | rfl | (simp; done) | (simp only [← hji19] <;> (first | rfl | simp)) | (simp [*]; done)), H', ⟨by have := HJ4.out; have := HK2.out; have := HJ13.out; omega⟩, ⟨by (with_reducible repeat (first | apply Kd.R_alloc | apply Kd.R_drewN | apply Kd.R_drew)); exact HO_7.out⟩, ⟨hq HB⟩⟩
                            · rw [if_neg c23] at H
                              exact absurd H (by simp)
                          · rw [if_neg c22] at H
                            exact absurd H (by simp)
                        · rw [if_neg c21] at H
                          exact absurd H (by simp)
                      · rw [if_neg c20] at H
                        exact absurd H (by simp)
                    · replace c18 := Bool.eq_false_iff.mpr c18
                      subst c18
                      have H1 : (if 0 ≤ x9_2 then (if x9_2 < (l0.length : Int) then (if t263 > ((rd_T50 l0 x9_2).f0) then (if x7_2.length < 8796093022208 then (corebankref14_Slices.l0 kj13 l0 (x7_2 ++ [(⟨wrap64 (t263 - ((rd_T50 l0 x9_2).f0)), (rd_T50 l0 x9_2).f1⟩ : S43)]) t263 (wrap64 (x9_2 + 1))) else (none)) else (corebankref14_Slices.l0 kj13 l0 x7_2 t263 (wrap64 (x9_2 + 1)))) else (none)) else (none)) = some r := by rw [if_neg (show ¬ (false = true) by decide)] at H; exact H
                      clear H
                      have H := H1
                      clear H1
                      by_cases c28 : 0 ≤ x9_2
                      · rw [if_pos c28] at H
                        have c28b0 : decide (0 ≤ x9_2) = true := decide_eq_true c28
                        clear c28
                        by_cases c29 : x9_2 < (l0.length : Int)
                        · rw [if_pos c29] at H
                          have c29b0 : decide (x9_2 < (l0.length : Int)) = true := decide_eq_true c29
                          clear c29
                          by_cases c30 : t263 > ((rd_T50 l0 x9_2).f0)
                          · rw [if_pos c30] at H
                            have c30b0 : decide (((rd_T50 l0 x9_2).f0) < t263) = true := decide_eq_true c30
                            clear c30
                            by_cases c31 : x7_2.length < 8796093022208
                            · rw [if_pos c31] at H
                              have LMc31 := Aside0.mk c31
                              clear c31
                              obtain ⟨y280, hy280⟩ : ∃ y_ : List (S43), y_ = (x7_2 ++ [(⟨wrap64 (t263 - ((rd_T50 l0 x9_2).f0)), (rd_T50 l0 x9_2).f1⟩ : S43)]) := ⟨_, rfl⟩
                              replace H : (corebankref14_Slices.l0 kj13 l0 y280 t263 (wrap64 (x9_2 + 1))) = some r := by first | (rw [hy280]; with_reducible exact H) | (have H2_ := (Option.bind_some _ _).symm.trans H; rw [hy280]; with_reducible exact H2_) | (have H2_ := (Option.bind_some _ _).symm.trans H; with_reducible exact H2_) | with_reducible exact H | (rw [hy280]; exact H) | exact H
                              have Ny280 := Aside0.mk hy280
                              clear hy280
                              have H' := Aside0.mk H
                              clear H
                              have p277 : 0 ≤ (x9_2 : Int) := of_decide_eq_true (by first | (with_reducible assumption) | assumption)
                              have q277 : x9_2 < (l0.length : Int) := of_decide_eq_true (by first | (with_reducible assumption) | assumption)
                              obtain ⟨ad277, e277, hx277_0, hx277_1⟩ := at_T50 HR0.out x9_2 p277 q277
                              cases e277
                              replace hx277_0 := (HB.out.cell (World.block_lt_of_cell? w _ hx277_0)).trans hx277_0
                              replace hx277_1 := (HB.out.cell (World.block_lt_of_cell? w _ hx277_1)).trans hx277_1
                              replace p277 := eq_true p277
                              replace q277 := eq_true q277
                              try go_wp2
                              replace HO_7 := Aside0.mk (Kd.R_drew HO_7.out)
                              replace HB := hb1 HB
                              have p278 : 0 ≤ (x9_2 : Int) := of_decide_eq_true (by first | (with_reducible assumption) | assumption)
                              have q278 : x9_2 < (l0.length : Int) := of_decide_eq_true (by first | (with_reducible assumption) | assumption)
                              obtain ⟨ad278, e278, hx278_0, hx278_1⟩ := at_T50 HR0.out x9_2 p278 q278
                              have hw278_1 := hx278_1
                              have hw278_0 := hx278_0
                              obtain rfl : ad277 = ad278 := (by injection e278)
                              replace hx278_0 := (HB.out.cell (World.block_lt_of_cell? w _ hx278_0)).trans hx278_0
                              replace hx278_1 := (HB.out.cell (World.block_lt_of_cell? w _ hx278_1)).trans hx278_1
                              replace p278 := eq_true p278
                              replace q278 := eq_true q278
                              have p279 : 0 ≤ (x9_2 : Int) := of_decide_eq_true (by first | (with_reducible assumption) | assumption)
                              have q279 : x9_2 < (l0.length : Int) := of_decide_eq_true (by first | (with_reducible assumption) | assumption)
                              obtain ⟨ad279, e279, hx279_0, hx279_1⟩ := at_T50 HR0.out x9_2 p279 q279
                              have hw279_1 := hx279_1
                              have hw279_0 := hx279_0
                              obtain rfl : ad277 = ad279 := (by injection e279)
                              replace hx279_0 := (HB.out.cell (World.block_lt_of_cell? w _ hx279_0)).trans hx279_0
                              replace hx279_1 := (HB.out.cell (World.block_lt_of_cell? w _ hx279_1)).trans hx279_1
                              replace p279 := eq_true p279
                              replace q279 := eq_true q279
                              refine start_ (n := 17) (S := fun w' => w'.cell? (ad277.add ((x9_2).toNat * 2)) = some (.int .i64 ((rd_T50 l0 x9_2).f0)) ∧ w'.cell? ⟨(ad277.add ((x9_2).toNat * 2)).block, (ad277.add ((x9_2).toNat * 2)).off + 1, none⟩ = some (.int .i64 ((rd_T50 l0 x9_2).f1)) ∧ w'.cell? (ad277.add ((x9_2).toNat * 2)) = some (.int .i64 ((rd_T50 l0 x9_2).f0)) ∧ w'.cell? ⟨(ad277.add ((x9_2).toNat * 2)).block, (ad277.add ((x9_2).toNat * 2)).off + 1, none⟩ = some (.int .i64 ((rd_T50 l0 x9_2).f1))) (ds := []) #[false, false, false, false, false, false, false, false, false, false, false, false, false, false, false, false, false] (by kernel_rfl) rfl rfl ⟨((HB.out.cell (World.block_lt_of_cell? w _ hw278_0)).trans hw278_0), ((HB.out.cell (World.block_lt_of_cell? w _ hw278_1)).trans hw278_1), ((HB.out.cell (World.block_lt_of_cell? w _ hw279_0)).trans hw279_0), ((HB.out.cell (World.block_lt_of_cell? w _ hw279_1)).trans hw279_1)⟩ (fun hHeld => ?_); refine with_tabW corebankref14_Slices.tab14 corebankref14_Slices.bits14 (fun HT_ HW_ => ?_)
                              generalize wc.drew = w32 at HO_7 HB hx278_0 hx278_1 hx279_0 hx279_1 hHeld ⊢
                              refine pz (i := 0) (N := some 70) #[true, false, false, false, false, false, false, false, false, false, false, false, false, false, false, false, false] rfl rfl (any_of HT_.out (by kernel_rfl)) (fun _ _ _ h => h) ?_
                              refine pz (i := 1) (N := some 71) #[true, true, false, false, false, false, false, false, false, false, false, false, false, false, false, false, false] rfl rfl (any_of HT_.out (by kernel_rfl)) (fun _ _ _ h => h) ?_
                              refine pz (i := 2) (N := some 72) #[true, true, true, false, false, false, false, false, false, false, false, false, false, false, false, false, false] rfl rfl (any_of HT_.out (by kernel_rfl)) (fun _ _ _ h => h) ?_
                              refine pz (i := 3) (N := some 73) #[true, true, true, true, false, false, false, false, false, false, false, false, false, false, false, false, false] rfl rfl (any_of HT_.out (by kernel_rfl)) (fun _ _ _ h => h) ?_
                              refine pz (i := 4) (N := some 74) #[true, true, true, true, true, false, false, false, false, false, false, false, false, false, false, false, false] rfl rfl (any_of HT_.out (by kernel_rfl)) (fun _ _ _ h => h) ?_
                              refine pz (i := 5) (N := some 75) #[true, true, true, true, true, true, false, false, false, false, false, false, false, false, false, false, false] rfl rfl (any_of HT_.out (by kernel_rfl)) (fun _ _ _ h => h) ?_
                              refine pz (i := 8) (N := some 78) #[true, true, true, true, true, true, false, false, true, false, false, false, false, false, false, false, false] rfl rfl (any_of HT_.out (by kernel_rfl)) (fun _ _ _ h => h) ?_
                              refine pz (i := 9) (N := some 79) #[true, true, true, true, true, true, false, false, true, true, false, false, false, false, false, false, false] rfl rfl (any_of HT_.out (by kernel_rfl)) (fun _ _ _ h => h) ?_
                              refine pz (i := 10) (N := some 80) #[true, true, true, true, true, true, false, false, true, true, true, false, false, false, false, false, false] rfl rfl (any_of HT_.out (by kernel_rfl)) (fun _ _ _ h => h) ?_
                              refine pz (i := 11) (N := some 81) #[true, true, true, true, true, true, false, false, true, true, true, true, false, false, false, false, false] rfl rfl (any_of HT_.out (by kernel_rfl)) (fun _ _ _ h => h) ?_
                              refine tz4 (i := 6) (N := some 76) #[true, true, true, true, true, true, true, false, true, true, true, true, false, false, false, false, false] rfl rfl (take_ofW HT_.out HW_.out (by kernel_rfl)) (fun _ _ _ h => h) hHeld ?_
                              refine pz (i := 7) (N := some 77) #[true, true, true, true, true, true, true, true, true, true, true, true, false, false, false, false, false] rfl rfl (any_of HT_.out (by kernel_rfl)) (fun _ _ _ h => h) ?_
                              refine tz4 (i := 12) (N := some 82) #[true, true, true, true, true, true, true, true, true, true, true, true, true, false, false, false, false] rfl rfl (take_ofW HT_.out HW_.out (by kernel_rfl)) (fun _ _ _ h => h) hHeld ?_
                              refine pz (i := 13) (N := some 83) #[true, true, true, true, true, true, true, true, true, true, true, true, true, true, false, false, false] rfl rfl (any_of HT_.out (by kernel_rfl)) (fun _ _ _ h => h) ?_
                              refine one_ (i := 14) (N := some 84) #[true, true, true, true, true, true, true, true, true, true, true, true, true, true, true, false, false] rfl rfl (one_of HT_.out (by kernel_rfl)) (by decide) (fun K hK => ?_)
                              refine value_ (w1 := ?_) (v := ?_) (by rfl) rfl ?_ ?_
                              rotate_left 2
                              · go_simp
                                constructor
                                · rfl
                                · rfl
                              refine hK.out _ _ ⟨(World.cell?_alloc_lt _ _ _ (World.block_lt_of_cell? _ _ (((HB.out.cell (World.block_lt_of_cell? w _ hw278_0)).trans hw278_0)))).trans (((HB.out.cell (World.block_lt_of_cell? w _ hw278_0)).trans hw278_0)), (World.cell?_alloc_lt _ _ _ (World.block_lt_of_cell? _ _ (((HB.out.cell (World.block_lt_of_cell? w _ hw278_1)).trans hw278_1)))).trans (((HB.out.cell (World.block_lt_of_cell? w _ hw278_1)).trans hw278_1)), (World.cell?_alloc_lt _ _ _ (World.block_lt_of_cell? _ _ (((HB.out.cell (World.block_lt_of_cell? w _ hw279_0)).trans hw279_0)))).trans (((HB.out.cell (World.block_lt_of_cell? w _ hw279_0)).trans hw279_0)), (World.cell?_alloc_lt _ _ _ (World.block_lt_of_cell? _ _ (((HB.out.cell (World.block_lt_of_cell? w _ hw279_1)).trans hw279_1)))).trans (((HB.out.cell (World.block_lt_of_cell? w _ hw279_1)).trans hw279_1))⟩ (fun hHeld => ?_)
                              clear hK K
                              refine norm_ (a' := ?_) ?_ ?_
                              rotate_left
                              · show Act.put _ (some 84) _ = _
                                simp only [Act.put, List.setIfInBounds_toArray, List.set_cons_zero, List.set_cons_succ, i64_w, i32_w]
                                rfl
                              refine one_ (i := 15) (N := some 85) #[true, true, true, true, true, true, true, true, true, true, true, true, true, true, true, true, false] rfl rfl (one_of HT_.out (by kernel_rfl)) (by decide) (fun K hK => ?_)
                              refine Kd.R_append_step k43 (w0 := w) w.heap.size (by rfl) (.tmp 70) (.tmp 84) 30 43 (.agg #[(.int .i64 0), (.int .i64 0)]) 16 rfl Try.underlying30 info43 rfl (by decide) (by omega) u7 x7_2 (⟨wrap64 (t263 - ((rd_T50 l0 x9_2).f0)), (rd_T50 l0 x9_2).f1⟩ : S43) [.int .i64 (wrap64 (t263 - ((rd_T50 l0 x9_2).f0))), .int .i64 ((rd_T50 l0 x9_2).f1)] (fun _ => True) (fun _ => False) rfl rfl ?aP (fun _ hk => hk.elim) ?aF ?aO ?aB ?aS ?aL ?_
                              (case aP => exact k43_mkM _ _ _ (⟨wrap64 (t263 - ((rd_T50 l0 x9_2).f0)), (rd_T50 l0 x9_2).f1⟩ : S43))
                              (case aB => exact (hq HB))
                              (case aF => exact (fun _ _ => trivial))
                              (case aO => exact (kq HO_7))
                              (case aS => exact (below_size (hq HB)))
                              (case aL => have := LMc31.out; omega)
                              intro v281 w33 ho hb hg hat
                              rw [← Ny280.out] at ho
                              have HO282 := Aside0.mk (ho)
                              replace HB := Aside0.mk (hb)
                              clear HO_7
                              clear ho hb hg hat
                              refine hK.out _ _ ⟨((HB.out.cell (World.block_lt_of_cell? w _ hw278_0)).trans hw278_0), ((HB.out.cell (World.block_lt_of_cell? w _ hw278_1)).trans hw278_1), ((HB.out.cell (World.block_lt_of_cell? w _ hw279_0)).trans hw279_0), ((HB.out.cell (World.block_lt_of_cell? w _ hw279_1)).trans hw279_1)⟩ (fun hHeld => ?_)
                              clear hK K
                              refine norm_ (a' := ?_) ?_ ?_
                              rotate_left
                              · show Act.put _ (some 85) _ = _
                                simp only [Act.put, List.setIfInBounds_toArray, List.set_cons_zero, List.set_cons_succ, i64_w, i32_w]
                                rfl
                              refine pz (i := 16) (N := some 7) #[true, true, true, true, true, true, true, true, true, true, true, true, true, true, true, true, true] rfl rfl (any_of HT_.out (by kernel_rfl)) (fun _ _ _ h => h) ?_
                              refine done_ (done_of HT_.out (by kernel_rfl)) ?_
                              try go_wp2
                              go_roundg kj13
                              case measure => have := HJ4.out; have := HK2.out; have := HJ13.out; omega
                              case rel => exact ⟨(y280), (wrap64 (x9_2 + 1)), (by first | rfl | (simp; done) | (simp [*]; done)), H', ⟨by have := HJ4.out; have := HK2.out; have := HJ13.out; omega⟩, ⟨by (with_reducible repeat (first | apply Kd.R_alloc | apply Kd.R_drewN | apply Kd.R_drew)); exact HO282.out⟩, ⟨hq HB⟩⟩
                            · rw [if_neg c31] at H
                              exact absurd H (by simp)
                          · rw [if_neg c30] at H
                            have c30b0 : decide (((rd_T50 l0 x9_2).f0) < t263) = false := decide_eq_false c30
                            clear c30
                            have H' := Aside0.mk H
                            clear H
                            have p277 : 0 ≤ (x9_2 : Int) := of_decide_eq_true (by first | (with_reducible assumption) | assumption)
                            have q277 : x9_2 < (l0.length : Int) := of_decide_eq_true (by first | (with_reducible assumption) | assumption)
                            obtain ⟨ad277, e277, hx277_0, hx277_1⟩ := at_T50 HR0.out x9_2 p277 q277
                            cases e277
                            replace hx277_0 := (HB.out.cell (World.block_lt_of_cell? w _ hx277_0)).trans hx277_0
                            replace hx277_1 := (HB.out.cell (World.block_lt_of_cell? w _ hx277_1)).trans hx277_1
                            replace p277 := eq_true p277
                            replace q277 := eq_true q277
                            go_wp2
                            go_roundg kj13
                            case measure => have := HJ4.out; have := HK2.out; have := HJ13.out; omega
                            case rel => exact ⟨(x7_2), (wrap64 (x9_2 + 1)), (by first | rfl | (simp; done) | (simp [*]; done)), H', ⟨by have := HJ4.out; have := HK2.out; have := HJ13.out; omega⟩, ⟨by (with_reducible repeat (first | apply Kd.R_alloc | apply Kd.R_drewN | apply Kd.R_drew)); exact HO_7.out⟩, ⟨hq HB⟩⟩
                        · rw [if_neg c29] at H
                          exact absurd H (by simp)
                      · rw [if_neg c28] at H
                        exact absurd H (by simp)
              · rw [if_neg c13] at H
                have c13b0 : decide (x9_2 < (l0.length : Int)) = false := decide_eq_false c13
                clear c13
                obtain rfl := Option.some.inj H
                go_wp2
                go_ret
                exact ⟨_, by first | rfl | (simp [errW_none, errW_some] <;> rfl) | (simp [*, errW_none, errW_some] <;> rfl), by (with_reducible repeat (first | apply Kd.R_alloc | apply Kd.R_drewN | apply Kd.R_drew)); exact HO_7.out, hq HB⟩
        · replace c12 := Bool.eq_false_iff.mpr c12
          subst c12
          have H1 : ((corebankref14_Rate.f kj4 l0 a2).bind fun t265 => (some (([(⟨t263, t265⟩ : S43)] : List (S43))))) = some r := by rw [if_neg (show ¬ (false = true) by decide)] at H; exact H
          clear H
          have H := H1
          clear H1
          replace H := Option.bind_eq_some_iff.mp H
          obtain ⟨t265, A340, H⟩ := H
          replace H : (some (([(⟨t263, t265⟩ : S43)] : List (S43)))) = some r := H
          have A34 := Aside0.mk A340
          clear A340
          obtain ⟨y266, hy266⟩ : ∃ y_ : List (S43), y_ = (([(⟨t263, t265⟩ : S43)] : List (S43))) := ⟨_, rfl⟩
          replace H : (some y266) = some r := by first | (rw [hy266]; with_reducible exact H) | (have H2_ := (Option.bind_some _ _).symm.trans H; rw [hy266]; with_reducible exact H2_) | (have H2_ := (Option.bind_some _ _).symm.trans H; with_reducible exact H2_) | with_reducible exact H | (rw [hy266]; exact H) | exact H
          have Ny266 := Aside0.mk hy266
          clear hy266
          obtain rfl := Option.some.inj H
          go_wp2_with (first | ((with_reducible refine gate_callee (f := 20) rfl ?_); refine goesL_ (some 32) rfl rfl Try.func20 (by kernel_rfl) rfl #[.slice A0 l0.length c0, .int .i64 a2] rfl zm ?_; (with_reducible refine (corebankref14_Rate.calls kj4 _ _ l0 a2 t265 _ ?side1 ?side2 A34.out).mono ?_); (case side1 => repeat (first | exact (Kd.C_below HR0.out HB.out) | (with_reducible refine Kd.C_alloc ?_ _) | (with_reducible refine Kd.C_drewN ?_ _) | (with_reducible refine Kd.C_drew ?_))); (case side2 => exact HC0.out); rintro e w' ⟨rfl, ⟨nd, rfl⟩⟩; refine ⟨_, rfl, ?_⟩) | ((with_reducible refine gate_dst (N := 34) rfl ?_); (try (refine gate_guard (by rfl) ?_; dsimp only)); refine Kd.R_lit k43 _ 43 ?hg (N := 34) ?hd (xs := ([(⟨t263, t265⟩ : S43)] : List (S43))) (inner := [.int .i64 t263, .int .i64 t265]) (ok := fun _ => True) (okp := fun _ => True) ?hr ?hp (fun _ hk => hk) trivial (Below.refl _ _) (Nat.le_refl _) (by simp) ?_; (case hd => rfl); (case hg => rfl); (case hr => first | (go_simp; done) | (go_simp; rfl)); (case hp => exact (Reps.c2 (show Kd.M k43 _ _ _ (⟨t263, t265⟩ : S43) [.int .i64 t263, .int .i64 t265] from (k43_mkM _ _ _ (⟨t263, t265⟩ : S43) )) (Reps.none _ _))); intro v267 w35 ho36 hb hg_ hnew_; clear hg_ hnew_; (first | rw [← Ny266.out] at ho36 | (simp only [Int.reduceToNat] at ho36; rw [← Ny266.out] at ho36)); have HO268 := Aside0.mk (Kd.R_lower (Kd.R_new' ho36 (Kd.R_lt (kq HO_7))) (below_size (hq HB))); replace HO_7 := Aside0.mk (Kd.R_elder' (kq HO_7) (Kd.R_base ho36) hb); replace HB := bs HB hb; clear hb ho36))
          go_ret
          exact ⟨_, by first | rfl | (simp [errW_none, errW_some] <;> rfl) | (simp [*, errW_none, errW_some] <;> rfl), by (with_reducible repeat (first | apply Kd.R_alloc | apply Kd.R_drewN | apply Kd.R_drew)); exact Kd.R_mono HO268.out (fun _ hk => trivial), hq HB⟩

end Go.Proofs.Ytlmabdiodopidaa.P
end
section
set_option linter.unusedVariables false
set_option linter.unusedSimpArgs false
namespace Go.Proofs.Ytlmabdiodopidaa.P
open Go.Proofs.Ytlmabdiodopidaa.G
attribute [local go_sem high] un_not64 un_noti run_add64
open Go.RowKit Go.Proofs.YtlmabdiodopidaaW.PrintWords Go.Proofs.YtlmabdiodopidaaW.PrintLast Go.Proofs.YtlmabdiodopidaaW.PrintMore
attribute [local go_sem] max2_int min2_int max_two min_two max_three min_three max_four min_four   -- for this text's walks alone
set_option linter.unusedVariables false
set_option linter.unusedSimpArgs false

/-! ### corebanklaw14_TierSlices: function 5 -/
def corebanklaw14_TierSlices.f (k : Nat) (l0 : List (S50)) (a1 : Bool) (a2 : Int) : Option (Bool) := if (l0.length : Int) > 100 then ((corebanklaw14_live.f).bind fun t283 => (some t283)) else ((tier_Slices.f k l0 a1 a2).bind fun t284 => ((corebankref14_Slices.f k l0 a1 a2).bind fun t287 => ((corebankref14_Same.f k t284 t287).bind fun t290 => (if t290 = true then ((corebanklaw14_live.f).bind fun t291 => (some t291)) else (some false)))))
theorem corebanklaw14_TierSlices.mono : ∀ a0 a1 a2 k, LeO (corebanklaw14_TierSlices.f k a0 a1 a2) (corebanklaw14_TierSlices.f (k + 1) a0 a1 a2) := by
  intro a0 a1 a2 k
  unfold corebanklaw14_TierSlices.f
  repeat' first
      | (with_reducible exact corebankref14_Same.mono _ _ _)
      | (with_reducible exact corebankref14_Slices.mono _ _ _ _)
      | (with_reducible exact tier_Slices.mono _ _ _ _)
      | (with_reducible exact LeO.refl _)
      | (with_reducible exact LeO.none _)
      | (with_reducible refine LeO.ite ?_ ?_)
      | (with_reducible refine LeO.bind ?_ (fun _ => ?_))
      | exact corebankref14_Same.mono _ _ _
      | exact corebankref14_Slices.mono _ _ _ _
      | exact tier_Slices.mono _ _ _ _
      | exact LeO.none _
      | refine LeO.ite ?_ ?_
      | refine LeO.bind ?_ (fun _ => ?_)
set_option maxHeartbeats 8000000 in
set_option maxRecDepth 100000 in
theorem corebanklaw14_TierSlices.calls (k : Nat) (A0 : Option Addr) (c0 : Nat) (l0 : List (S50)) (a1 : Bool) (a2 : Int) (r : Bool) (w : World) (hr0 : Kd.C k50 w A0 l0.length l0) (hc0 : l0.length ≤ c0) (hT : r = true) (h : corebanklaw14_TierSlices.f k l0 a1 a2 = some r) :
    Calls Try.prog 5 #[.slice A0 l0.length c0, .bool a1, .int .i64 a2] w fun e w' => e = .returned (.bool r) ∧ Below w.heap.size w w' := by
  have HR0 := Aside0.mk hr0
  have HC0 := Aside0.mk hc0
  clear hr0 hc0
  have HB := Aside0.mk (Below.refl w.heap.size w)
  have HT := Aside0.mk hT
  clear hT
  have H : (if (l0.length : Int) > 100 then ((corebanklaw14_live.f).bind fun t283 => (some t283)) else ((tier_Slices.f k l0 a1 a2).bind fun t284 => ((corebankref14_Slices.f k l0 a1 a2).bind fun t287 => ((corebankref14_Same.f k t284 t287).bind fun t290 => (if t290 = true then ((corebanklaw14_live.f).bind fun t291 => (some t291)) else (some false)))))) = some r := h
  clear h
  by_cases c4 : (l0.length : Int) > 100
  · rw [if_pos c4] at H
    have c4b0 : decide (100 < (l0.length : Int)) = true := decide_eq_true c4
    have c4b1 : decide (100 < l0.length) = true := decide_eq_true (by omega)
    clear c4
    replace H := Option.bind_eq_some_iff.mp H
    obtain ⟨t283, A50, H⟩ := H
    replace H : (some t283) = some r := H
    have A5 := Aside0.mk A50
    clear A50
    obtain rfl := Option.some.inj H
    go_enter Try.func5, Try.ntmps5
    go_wp2_with (first | (go_at_call 18; (with_reducible refine (corebanklaw14_live.calls  t283 _ A5.out).mono ?_); rintro e w6 ⟨rfl, hb⟩; replace HB := bs HB hb; (try clear hb); (try clear hb2); (try clear hk); (try clear hi)))
    go_ret
    exact ⟨by first | rfl | (simp [errW_none, errW_some] <;> rfl) | (simp [*, errW_none, errW_some] <;> rfl), hq HB⟩
  · rw [if_neg c4] at H
    have c4b0 : decide (100 < (l0.length : Int)) = false := decide_eq_false c4
    have c4b1 : decide (100 < l0.length) = false := decide_eq_false (by omega)
    clear c4
    replace H := Option.bind_eq_some_iff.mp H
    obtain ⟨t284, A70, H⟩ := H
    replace H : ((corebankref14_Slices.f k l0 a1 a2).bind fun t287 => ((corebankref14_Same.f k t284 t287).bind fun t290 => (if t290 = true then ((corebanklaw14_live.f).bind fun t291 => (some t291)) else (some false)))) = some r := H
    have A7 := Aside0.mk A70
    clear A70
    replace H := Option.bind_eq_some_iff.mp H
    obtain ⟨t287, A80, H⟩ := H
    replace H : ((corebankref14_Same.f k t284 t287).bind fun t290 => (if t290 = true then ((corebanklaw14_live.f).bind fun t291 => (some t291)) else (some false))) = some r := H
    have A8 := Aside0.mk A80
    clear A80
    replace H := Option.bind_eq_some_iff.mp H
    obtain ⟨t290, A90, H⟩ := H
    replace H : (if t290 = true then ((corebanklaw14_live.f).bind fun t291 => (some t291)) else (some false)) = some r := H
    have A9 := Aside0.mk A90
    clear A90
    by_cases c10 : t290 = true
    · subst c10
      have H1 : ((corebanklaw14_live.f).bind fun t291 => (some t291)) = some r := by rw [if_pos rfl] at H; exact H
      clear H
      have H := H1
      clear H1
      replace H := Option.bind_eq_some_iff.mp H
      obtain ⟨t291, A110, H⟩ := H
      replace H : (some t291) = some r := H
      have A11 := Aside0.mk A110
      clear A110
      obtain rfl := Option.some.inj H
      go_enter Try.func5, Try.ntmps5
      go_wp2_with (first | (go_at_call 22; (with_reducible refine (tier_Slices.calls k _ _ l0 a1 a2 t284 _ ?side1 ?side2 A7.out).mono ?_); (case side1 => repeat (first | exact HR0.out | (with_reducible refine Kd.C_alloc ?_ _) | (with_reducible refine Kd.C_drewN ?_ _) | (with_reducible refine Kd.C_drew ?_))); (case side2 => exact HC0.out); rintro e w12 ⟨v285, rfl, ho0, hb⟩; have HO286 := Aside0.mk (Kd.R_lower ho0 (below_size (hq HB))); replace HB := bs HB hb; (try clear hb); (try clear hb2); (try clear hk); (try clear hi); (try clear ho0)) | (go_at_call 23; (with_reducible refine (corebankref14_Slices.calls k _ _ l0 a1 a2 t287 _ ?side1 ?side2 A8.out).mono ?_); (case side1 => repeat (first | exact (Kd.C_below HR0.out HB.out) | (with_reducible refine Kd.C_alloc ?_ _) | (with_reducible refine Kd.C_drewN ?_ _) | (with_reducible refine Kd.C_drew ?_))); (case side2 => exact HC0.out); rintro e w13 ⟨v288, rfl, ho0, hb⟩; have HO289 := Aside0.mk (Kd.R_lower (Kd.R_new' ho0 (Kd.R_lt (kq HO286))) (below_size (hq HB))); replace HO286 := Aside0.mk (Kd.R_elder' (kq HO286) (Kd.R_base ho0) hb); replace HB := bs HB hb; (try clear hb); (try clear hb2); (try clear hk); (try clear hi); (try clear ho0); obtain ⟨Ao14, co14, eo14⟩ := Kd.R_slice HO286.out; subst eo14; obtain ⟨Ao15, co15, eo15⟩ := Kd.R_slice HO289.out; subst eo15) | (go_at_call 21; (with_reducible refine (corebankref14_Same.calls k _ _ t284 _ _ t287 true _ ?side1 ?side2 ?side3 ?side4 A9.out).mono ?_); (case side1 => repeat (first | exact (Kd.R_reads' HO286.out).2.2 | (with_reducible refine Kd.C_alloc ?_ _) | (with_reducible refine Kd.C_drewN ?_ _) | (with_reducible refine Kd.C_drew ?_))); (case side2 => exact (Kd.R_reads' HO286.out).2.1); (case side3 => repeat (first | exact (Kd.R_reads' HO289.out).2.2 | (with_reducible refine Kd.C_alloc ?_ _) | (with_reducible refine Kd.C_drewN ?_ _) | (with_reducible refine Kd.C_drew ?_))); (case side4 => exact (Kd.R_reads' HO289.out).2.1); rintro e w' ⟨rfl, ⟨nd, rfl⟩⟩) | (go_at_call 18; (with_reducible refine (corebanklaw14_live.calls  t291 _ A11.out).mono ?_); rintro e w16 ⟨rfl, hb⟩; replace HO286 := kb HO286 hb; replace HO289 := kb HO289 hb; replace HB := bs HB hb; (try clear hb); (try clear hb2); (try clear hk); (try clear hi)))
      go_ret
      exact ⟨by first | rfl | (simp [errW_none, errW_some] <;> rfl) | (simp [*, errW_none, errW_some] <;> rfl), hq HB⟩
    · replace c10 := Bool.eq_false_iff.mpr c10
      subst c10
      have H1 : (some false) = some r := by rw [if_neg (show ¬ (false = true) by decide)] at H; exact H
      clear H
      have H := H1
      clear H1
      exact absurd ((Option.some.inj H).trans HT.out) (by decide)

/-! ### corebankref01_Split: function 48 -/
def corebankref01_Split.f (a0_0 : Int) (a0_1 : Int) : Option (Bool × Int × Int) := if a0_0 ≥ 0 then (some (false, IntKind.u64.wrap (a0_0), a0_1)) else (if (IntKind.u64.wrap ((not64 a0_1) + 1)) = 0 then (some (true, IntKind.u64.wrap ((not64 (IntKind.u64.wrap (a0_0))) + 1), IntKind.u64.wrap ((not64 a0_1) + 1))) else (some (true, not64 (IntKind.u64.wrap (a0_0)), IntKind.u64.wrap ((not64 a0_1) + 1))))
set_option maxHeartbeats 8000000 in
set_option maxRecDepth 100000 in
theorem corebankref01_Split.calls (a0_0 : Int) (a0_1 : Int) (r1 : Bool) (r2 : Int) (r3 : Int) (w : World) (h : corebankref01_Split.f a0_0 a0_1 = some (r1, r2, r3)) :
    Calls Try.prog 48 #[.agg #[.int .i64 a0_0, .int .u64 a0_1]] w fun e w' => e = .returned (.tuple #[.bool r1, .agg #[.int .u64 r2, .int .u64 r3]]) ∧ Below w.heap.size w w' := by
  have hu35 := Try.underlying35
  have hu89 := Try.underlying89
  have HB := Aside0.mk (Below.refl w.heap.size w)
  have H : (if a0_0 ≥ 0 then (some (false, IntKind.u64.wrap (a0_0), a0_1)) else (if (IntKind.u64.wrap ((not64 a0_1) + 1)) = 0 then (some (true, IntKind.u64.wrap ((not64 (IntKind.u64.wrap (a0_0))) + 1), IntKind.u64.wrap ((not64 a0_1) + 1))) else (some (true, not64 (IntKind.u64.wrap (a0_0)), IntKind.u64.wrap ((not64 a0_1) + 1))))) = some (r1, r2, r3) := h
  clear h
  by_cases c2 : a0_0 ≥ 0
  · rw [if_pos c2] at H
    have c2b0 : decide (0 ≤ a0_0) = true := decide_eq_true c2
    clear c2
    simp only [Option.some.injEq, Prod.mk.injEq] at H
    obtain ⟨rfl, rfl, rfl⟩ := H
    go_enter Try.func48, Try.ntmps48
    go_wp2_with (first | ((with_reducible refine gate_dst (N := 1) rfl ?_); refine box_event ?hg (N := 1) ?hd (cs := #[.int .i64 a0_0, .int .u64 a0_1]) (t := 35) ?hr ?_; (case hd => rfl); (case hg => rfl); (case hr => first | (go_simp; done) | (go_simp; rfl)); intro gb292 hg w3 hbox hb; have BK292 := Aside0.mk (hbox); have GW292 := ge HB hg; have GE292 := ge HB hg; replace HB := bs HB hb; clear hb hbox hg) | ((with_reducible refine gate_dst (N := 3) rfl ?_); refine box_event ?hg (N := 3) ?hd (cs := #[.int .u64 0, .int .u64 0]) (t := 89) ?hr ?_; (case hd => rfl); (case hg => rfl); (case hr => first | (go_simp; done) | (go_simp; rfl)); intro gb293 hg w4 hbox hb; have BK293 := Aside0.mk (hbox); have GW293 := ge HB hg; have GE293 := ge HB hg; have NB292_293 := nl BK292 hg; have NB293_292 := ng NB292_293; replace BK292 := bb BK292 hb; replace HB := bs HB hb; clear hb hbox hg; have hnb5 := NB292_293.out; have hnc5 := NB293_292.out; obtain ⟨hcz6_0, hcz6_1, hfz6_0, hfz6_1⟩ := cz2 BK292; obtain ⟨hcz7_0, hcz7_1, hfz7_0, hfz7_1⟩ := cz2 BK293))
    repeat (go_quiet (first | ((with_reducible refine gate_dst (N := 1) rfl ?_); refine box_event ?hg (N := 1) ?hd (cs := #[.int .i64 a0_0, .int .u64 a0_1]) (t := 35) ?hr ?_; (case hd => rfl); (case hg => rfl); (case hr => first | (go_simp; done) | (go_simp; rfl)); intro gb292 hg w3 hbox hb; have BK292 := Aside0.mk (hbox); have GW292 := ge HB hg; have GE292 := ge HB hg; replace HB := bs HB hb; clear hb hbox hg) | ((with_reducible refine gate_dst (N := 3) rfl ?_); refine box_event ?hg (N := 3) ?hd (cs := #[.int .u64 0, .int .u64 0]) (t := 89) ?hr ?_; (case hd => rfl); (case hg => rfl); (case hr => first | (go_simp; done) | (go_simp; rfl)); intro gb293 hg w4 hbox hb; have BK293 := Aside0.mk (hbox); have GW293 := ge HB hg; have GE293 := ge HB hg; have NB292_293 := nl BK292 hg; have NB293_292 := ng NB292_293; replace BK292 := bb BK292 hb; replace HB := bs HB hb; clear hb hbox hg; have hnb5 := NB292_293.out; have hnc5 := NB293_292.out; obtain ⟨hcz6_0, hcz6_1, hfz6_0, hfz6_1⟩ := cz2 BK292; obtain ⟨hcz7_0, hcz7_1, hfz7_0, hfz7_1⟩ := cz2 BK293)); try go_wp2_with (first | ((with_reducible refine gate_dst (N := 1) rfl ?_); refine box_event ?hg (N := 1) ?hd (cs := #[.int .i64 a0_0, .int .u64 a0_1]) (t := 35) ?hr ?_; (case hd => rfl); (case hg => rfl); (case hr => first | (go_simp; done) | (go_simp; rfl)); intro gb292 hg w3 hbox hb; have BK292 := Aside0.mk (hbox); have GW292 := ge HB hg; have GE292 := ge HB hg; replace HB := bs HB hb; clear hb hbox hg) | ((with_reducible refine gate_dst (N := 3) rfl ?_); refine box_event ?hg (N := 3) ?hd (cs := #[.int .u64 0, .int .u64 0]) (t := 89) ?hr ?_; (case hd => rfl); (case hg => rfl); (case hr => first | (go_simp; done) | (go_simp; rfl)); intro gb293 hg w4 hbox hb; have BK293 := Aside0.mk (hbox); have GW293 := ge HB hg; have GE293 := ge HB hg; have NB292_293 := nl BK292 hg; have NB293_292 := ng NB292_293; replace BK292 := bb BK292 hb; replace HB := bs HB hb; clear hb hbox hg; have hnb5 := NB292_293.out; have hnc5 := NB293_292.out; obtain ⟨hcz6_0, hcz6_1, hfz6_0, hfz6_1⟩ := cz2 BK292; obtain ⟨hcz7_0, hcz7_1, hfz7_0, hfz7_1⟩ := cz2 BK293)))
    refine bodyPost_ret (results_tc rfl _ _ gb293 89 #[.int .u64 (IntKind.u64.wrap (a0_0)), .int .u64 a0_1] (0, 0) _ rfl (bp BK293) Try.underlying89 rfl (by kernel_rfl)) rfl ?_
    exact ⟨by first | rfl | (simp [errW_none, errW_some] <;> rfl) | (simp [*, errW_none, errW_some] <;> rfl), hq HB⟩
  · rw [if_neg c2] at H
    have c2b0 : decide (0 ≤ a0_0) = false := decide_eq_false c2
    clear c2
    by_cases c8 : (IntKind.u64.wrap ((not64 a0_1) + 1)) = 0
    · rw [if_pos c8] at H
      have c8b0 : ((IntKind.u64.wrap ((not64 a0_1) + 1)) == 0) = true := beq_iff_eq.mpr c8
      have c8b1 : ((IntKind.u64.wrap ((not64 a0_1) + 1)) != 0) = false := bne_eq_false_iff_eq.mpr c8
      clear c8
      simp only [Option.some.injEq, Prod.mk.injEq] at H
      obtain ⟨rfl, rfl, rfl⟩ := H
      go_enter Try.func48, Try.ntmps48
      go_wp2_with (first | ((with_reducible refine gate_dst (N := 1) rfl ?_); refine box_event ?hg (N := 1) ?hd (cs := #[.int .i64 a0_0, .int .u64 a0_1]) (t := 35) ?hr ?_; (case hd => rfl); (case hg => rfl); (case hr => first | (go_simp; done) | (go_simp; rfl)); intro gb292 hg w9 hbox hb; have BK292 := Aside0.mk (hbox); have GW292 := ge HB hg; have GE292 := ge HB hg; replace HB := bs HB hb; clear hb hbox hg) | ((with_reducible refine gate_dst (N := 3) rfl ?_); refine box_event ?hg (N := 3) ?hd (cs := #[.int .u64 0, .int .u64 0]) (t := 89) ?hr ?_; (case hd => rfl); (case hg => rfl); (case hr => first | (go_simp; done) | (go_simp; rfl)); intro gb293 hg w10 hbox hb; have BK293 := Aside0.mk (hbox); have GW293 := ge HB hg; have GE293 := ge HB hg; have NB292_293 := nl BK292 hg; have NB293_292 := ng NB292_293; replace BK292 := bb BK292 hb; replace HB := bs HB hb; clear hb hbox hg; have hnb11 := NB292_293.out; have hnc11 := NB293_292.out; obtain ⟨hcz12_0, hcz12_1, hfz12_0, hfz12_1⟩ := cz2 BK292; obtain ⟨hcz13_0, hcz13_1, hfz13_0, hfz13_1⟩ := cz2 BK293))
      repeat (go_quiet (first | ((with_reducible refine gate_dst (N := 1) rfl ?_); refine box_event ?hg (N := 1) ?hd (cs := #[.int .i64 a0_0, .int .u64 a0_1]) (t := 35) ?hr ?_; (case hd => rfl); (case hg => rfl); (case hr => first | (go_simp; done) | (go_simp; rfl)); intro gb292 hg w9 hbox hb; have BK292 := Aside0.mk (hbox); have GW292 := ge HB hg; have GE292 := ge HB hg; replace HB := bs HB hb; clear hb hbox hg) | ((with_reducible refine gate_dst (N := 3) rfl ?_); refine box_event ?hg (N := 3) ?hd (cs := #[.int .u64 0, .int .u64 0]) (t := 89) ?hr ?_; (case hd => rfl); (case hg => rfl); (case hr => first | (go_simp; done) | (go_simp; rfl)); intro gb293 hg w10 hbox hb; have BK293 := Aside0.mk (hbox); have GW293 := ge HB hg; have GE293 := ge HB hg; have NB292_293 := nl BK292 hg; have NB293_292 := ng NB292_293; replace BK292 := bb BK292 hb; replace HB := bs HB hb; clear hb hbox hg; have hnb11 := NB292_293.out; have hnc11 := NB293_292.out; obtain ⟨hcz12_0, hcz12_1, hfz12_0, hfz12_1⟩ := cz2 BK292; obtain ⟨hcz13_0, hcz13_1, hfz13_0, hfz13_1⟩ := cz2 BK293)); try go_wp2_with (first | ((with_reducible refine gate_dst (N := 1) rfl ?_); refine box_event ?hg (N := 1) ?hd (cs := #[.int .i64 a0_0, .int .u64 a0_1]) (t := 35) ?hr ?_; (case hd => rfl); (case hg => rfl); (case hr => first | (go_simp; done) | (go_simp; rfl)); intro gb292 hg w9 hbox hb; have BK292 := Aside0.mk (hbox); have GW292 := ge HB hg; have GE292 := ge HB hg; replace HB := bs HB hb; clear hb hbox hg) | ((with_reducible refine gate_dst (N := 3) rfl ?_); refine box_event ?hg (N := 3) ?hd (cs := #[.int .u64 0, .int .u64 0]) (t := 89) ?hr ?_; (case hd => rfl); (case hg => rfl); (case hr => first | (go_simp; done) | (go_simp; rfl)); intro gb293 hg w10 hbox hb; have BK293 := Aside0.mk (hbox); have GW293 := ge HB hg; have GE293 := ge HB hg; have NB292_293 := nl BK292 hg; have NB293_292 := ng NB292_293; replace BK292 := bb BK292 hb; replace HB := bs HB hb; clear hb hbox hg; have hnb11 := NB292_293.out; have hnc11 := NB293_292.out; obtain ⟨hcz12_0, hcz12_1, hfz12_0, hfz12_1⟩ := cz2 BK292; obtain ⟨hcz13_0, hcz13_1, hfz13_0, hfz13_1⟩ := cz2 BK293)))
      refine bodyPost_ret (results_tc rfl _ _ gb293 89 #[.int .u64 (IntKind.u64.wrap ((not64 (IntKind.u64.wrap (a0_0))) + 1)), .int .u64 (IntKind.u64.wrap ((not64 a0_1) + 1))] (0, 0) _ rfl (bp BK293) Try.underlying89 rfl (by kernel_rfl)) rfl ?_
      exact ⟨by first | rfl | (simp [errW_none, errW_some] <;> rfl) | (simp [*, errW_none, errW_some] <;> rfl), hq HB⟩
    · rw [if_neg c8] at H
      have c8b0 : ((IntKind.u64.wrap ((not64 a0_1) + 1)) == 0) = false := beq_eq_false_iff_ne.mpr c8
      have c8b1 : ((IntKind.u64.wrap ((not64 a0_1) + 1)) != 0) = true := bne_iff_ne.mpr c8
      simp only [Option.some.injEq, Prod.mk.injEq] at H
      obtain ⟨rfl, rfl, rfl⟩ := H
      go_enter Try.func48, Try.ntmps48
      go_wp2_with (first | ((with_reducible refine gate_dst (N := 1) rfl ?_); refine box_event ?hg (N := 1) ?hd (cs := #[.int .i64 a0_0, .int .u64 a0_1]) (t := 35) ?hr ?_; (case hd => rfl); (case hg => rfl); (case hr => first | (go_simp; done) | (go_simp; rfl)); intro gb292 hg w14 hbox hb; have BK292 := Aside0.mk (hbox); have GW292 := ge HB hg; have GE292 := ge HB hg; replace HB := bs HB hb; clear hb hbox hg) | ((with_reducible refine gate_dst (N := 3) rfl ?_); refine box_event ?hg (N := 3) ?hd (cs := #[.int .u64 0, .int .u64 0]) (t := 89) ?hr ?_; (case hd => rfl); (case hg => rfl); (case hr => first | (go_simp; done) | (go_simp; rfl)); intro gb293 hg w15 hbox hb; have BK293 := Aside0.mk (hbox); have GW293 := ge HB hg; have GE293 := ge HB hg; have NB292_293 := nl BK292 hg; have NB293_292 := ng NB292_293; replace BK292 := bb BK292 hb; replace HB := bs HB hb; clear hb hbox hg; have hnb16 := NB292_293.out; have hnc16 := NB293_292.out; obtain ⟨hcz17_0, hcz17_1, hfz17_0, hfz17_1⟩ := cz2 BK292; obtain ⟨hcz18_0, hcz18_1, hfz18_0, hfz18_1⟩ := cz2 BK293))
      repeat (go_quiet (first | ((with_reducible refine gate_dst (N := 1) rfl ?_); refine box_event ?hg (N := 1) ?hd (cs := #[.int .i64 a0_0, .int .u64 a0_1]) (t := 35) ?hr ?_; (case hd => rfl); (case hg => rfl); (case hr => first | (go_simp; done) | (go_simp; rfl)); intro gb292 hg w14 hbox hb; have BK292 := Aside0.mk (hbox); have GW292 := ge HB hg; have GE292 := ge HB hg; replace HB := bs HB hb; clear hb hbox hg) | ((with_reducible refine gate_dst (N := 3) rfl ?_); refine box_event ?hg (N := 3) ?hd (cs := #[.int .u64 0, .int .u64 0]) (t := 89) ?hr ?_; (case hd => rfl); (case hg => rfl); (case hr => first | (go_simp; done) | (go_simp; rfl)); intro gb293 hg w15 hbox hb; have BK293 := Aside0.mk (hbox); have GW293 := ge HB hg; have GE293 := ge HB hg; have NB292_293 := nl BK292 hg; have NB293_292 := ng NB292_293; replace BK292 := bb BK292 hb; replace HB := bs HB hb; clear hb hbox hg; have hnb16 := NB292_293.out; have hnc16 := NB293_292.out; obtain ⟨hcz17_0, hcz17_1, hfz17_0, hfz17_1⟩ := cz2 BK292; obtain ⟨hcz18_0, hcz18_1, hfz18_0, hfz18_1⟩ := cz2 BK293)); try go_wp2_with (first | ((with_reducible refine gate_dst (N := 1) rfl ?_); refine box_event ?hg (N := 1) ?hd (cs := #[.int .i64 a0_0, .int .u64 a0_1]) (t := 35) ?hr ?_; (case hd => rfl); (case hg => rfl); (case hr => first | (go_simp; done) | (go_simp; rfl)); intro gb292 hg w14 hbox hb; have BK292 := Aside0.mk (hbox); have GW292 := ge HB hg; have GE292 := ge HB hg; replace HB := bs HB hb; clear hb hbox hg) | ((with_reducible refine gate_dst (N := 3) rfl ?_); refine box_event ?hg (N := 3) ?hd (cs := #[.int .u64 0, .int .u64 0]) (t := 89) ?hr ?_; (case hd => rfl); (case hg => rfl); (case hr => first | (go_simp; done) | (go_simp; rfl)); intro gb293 hg w15 hbox hb; have BK293 := Aside0.mk (hbox); have GW293 := ge HB hg; have GE293 := ge HB hg; have NB292_293 := nl BK292 hg; have NB293_292 := ng NB292_293; replace BK292 := bb BK292 hb; replace HB := bs HB hb; clear hb hbox hg; have hnb16 := NB292_293.out; have hnc16 := NB293_292.out; obtain ⟨hcz17_0, hcz17_1, hfz17_0, hfz17_1⟩ := cz2 BK292; obtain ⟨hcz18_0, hcz18_1, hfz18_0, hfz18_1⟩ := cz2 BK293)))
      refine bodyPost_ret (results_tc rfl _ _ gb293 89 #[.int .u64 (not64 (IntKind.u64.wrap (a0_0))), .int .u64 (IntKind.u64.wrap ((not64 a0_1) + 1))] (0, 0) _ rfl (bp BK293) Try.underlying89 rfl (by kernel_rfl)) rfl ?_
      exact ⟨by first | rfl | (simp [errW_none, errW_some] <;> rfl) | (simp [*, errW_none, errW_some] <;> rfl), hq HB⟩

end Go.Proofs.Ytlmabdiodopidaa.P
end
