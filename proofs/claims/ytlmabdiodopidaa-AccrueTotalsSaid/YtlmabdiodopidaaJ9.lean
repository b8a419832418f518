/- Texts of this seat, joined: Px19, Live14, Px20. Lemmas for the claim's theorem. -/
import Derived.Test.YtlmabdiodopidaaJ8
section
namespace Go.Proofs.Ytlmabdiodopidaa.P
open Go.Proofs.Ytlmabdiodopidaa.G
attribute [local go_sem high] un_not64 un_noti run_add64
open Go.RowKit Go.Proofs.YtlmabdiodopidaaW.PrintWords Go.Proofs.YtlmabdiodopidaaW.PrintLast Go.Proofs.YtlmabdiodopidaaW.PrintMore
attribute [local go_sem] max2_int min2_int max_two min_two max_three min_three max_four min_four   -- for this text's walks alone
set_option linter.unusedVariables false
set_option linter.unusedSimpArgs false

attribute [local go_sem high] eqA35
/-! ### corebanklaw14_liveT: function 18 -/
def corebanklaw14_liveT.f (k : Nat)  : Option (Bool) := (some (([(⟨0, 10000⟩ : S50), (⟨1000, 20000⟩ : S50)] : List (S50)) : List (S50))).bind fun y217 => ((tier_Grains.f k (([(⟨100000, 15000⟩ : S43)] : List (S43))) 4392).bind fun bt223 => ((tier_Slices.f k y217 true (-1500)).bind fun t227 => ((corebankref14_Same.f k t227 (([(⟨1000, 10000⟩ : S43), (⟨500, 20000⟩ : S43)] : List (S43)))).bind fun t233 => (if t233 = true then ((tier_Slices.f k y217 false 1000).bind fun t234 => ((corebankref14_Same.f k t234 (([(⟨1000, 20000⟩ : S43)] : List (S43)))).bind fun t240 => (if t240 = true then ((tier_Rate.f k y217 999).bind fun t241 => (if t241 = 10000 then ((corebankref01_Of.f 6588000000000).bind fun bt242 => (if (bt223.1 == bt242.1 && (bt223.2.1 == bt242.2)) = true then (if bt223.2.2 = 0 then ((tier_Check.f (([(⟨1, 1⟩ : S50)] : List (S50)))).bind fun t247 => (some (t247 == 1))) else (some false)) else (some false))) else (some false))) else (some false)))) else (some false)))))
theorem corebanklaw14_liveT.mono : ∀ k, LeO (corebanklaw14_liveT.f k ) (corebanklaw14_liveT.f (k + 1) ) := by
  intro  k
  unfold corebanklaw14_liveT.f
  repeat' first
      | (with_reducible exact corebankref14_Same.mono _ _ _)
      | (with_reducible exact tier_Grains.mono _ _ _)
      | (with_reducible exact tier_Rate.mono _ _ _)
      | (with_reducible exact tier_Slices.mono _ _ _ _)
      | (with_reducible exact LeO.refl _)
      | (with_reducible exact LeO.none _)
      | (with_reducible refine LeO.ite ?_ ?_)
      | (with_reducible refine LeO.bind ?_ (fun _ => ?_))
      | exact corebankref14_Same.mono _ _ _
      | exact tier_Grains.mono _ _ _
      | exact tier_Rate.mono _ _ _
      | exact tier_Slices.mono _ _ _ _
      | exact LeO.none _
      | refine LeO.ite ?_ ?_
      | refine LeO.bind ?_ (fun _ => ?_)
def corebanklaw14_liveT.T3 : Bool × List (List Nat × List Nat) := (true, [([], []), ([0], [0]), ([], []), ([], []), ([2, 3], [2, 3]), ([1, 4, 1], [1, 4]), ([5, 5], [5]), ([6], [6]), ([7, 6, 6], [6, 7]), ([6], [6]), ([9, 6], [6, 9]), ([8, 10, 8, 6], [6, 8, 10]), ([6, 11], [6, 11]), ([12, 11], [12]), ([13], [13]), ([14, 13, 13], [13, 14]), ([15, 13], [13, 15]), ([13, 16], [13, 16]), ([17, 15], [17]), ([18], [18]), ([18, 18], [18]), ([19, 20, 18], [18, 19, 20]), ([18, 21], [18, 21]), ([22, 20], [22]), ([23], [23]), ([24, 23], [23, 24]), ([23, 25], [23, 25]), ([26, 23], [26]), ([27], [27]), ([28, 27], [27, 28]), ([29, 27, 27], [27, 29]), ([30, 27], [27, 30]), ([27, 31], [27, 31]), ([32, 30, 0, 1, 2, 3, 4, 5, 6, 7, 8, 9, 10, 11, 12, 13, 14, 15, 16, 17, 18, 19, 20, 21, 22, 23, 24, 25, 26, 27, 28, 29, 30, 31, 32], [32])])
def corebanklaw14_liveT.B3 : List Nat := [0, 1, 0, 0, 12, 31, 63, 127, 255, 127, 639, 2047, 4095, 8191, 16383, 32767, 65535, 131071, 262143, 524287, 524287, 2097151, 4194303, 8388607, 16777215, 33554431, 67108863, 134217727, 268435455, 536870911, 1073741823, 2147483647, 4294967295, 8589934591]
theorem corebanklaw14_liveT.tab3 : rtab .any (opsOf Try.f18 3) = corebanklaw14_liveT.T3 := by kernel_rfl
theorem corebanklaw14_liveT.bits3 : waitsOk corebanklaw14_liveT.T3.2 corebanklaw14_liveT.B3 = true := by kernel_rfl
set_option maxHeartbeats 8000000 in
set_option maxRecDepth 100000 in
theorem corebanklaw14_liveT.calls (k : Nat)  (r : Bool) (w : World) (hT : r = true) (h : corebanklaw14_liveT.f k  = some r) :
    Calls Try.prog 18 #[] w fun e w' => e = .returned (.bool r) ∧ Below w.heap.size w w' := by
  have hu50 := Try.underlying50
  have hu43 := Try.underlying43
  have hu35 := Try.underlying35
  have HB := Aside0.mk (Below.refl w.heap.size w)
  have HT := Aside0.mk hT
  clear hT
  have H : ((some (([(⟨0, 10000⟩ : S50), (⟨1000, 20000⟩ : S50)] : List (S50)) : List (S50))).bind fun y217 => ((tier_Grains.f k (([(⟨100000, 15000⟩ : S43)] : List (S43))) 4392).bind fun bt223 => ((tier_Slices.f k y217 true (-1500)).bind fun t227 => ((corebankref14_Same.f k t227 (([(⟨1000, 10000⟩ : S43), (⟨500, 20000⟩ : S43)] : List (S43)))).bind fun t233 => (if t233 = true then ((tier_Slices.f k y217 false 1000).bind fun t234 => ((corebankref14_Same.f k t234 (([(⟨1000, 20000⟩ : S43)] : List (S43)))).bind fun t240 => (if t240 = true then ((tier_Rate.f k y217 999).bind fun t241 => (if t241 = 10000 then ((corebankref01_Of.f 6588000000000).bind fun bt242 => (if (bt223.1 == bt242.1 && (bt223.2.1 == bt242.2)) = true then (if bt223.2.2 = 0 then ((tier_Check.f (([(⟨1, 1⟩ : S50)] : List (S50)))).bind fun t247 => (some (t247 == 1))) else (some false)) else (some false))) else (some false))) else (some false)))) else (some false)))))) = some r := h
  clear h
  obtain ⟨y217, hy217⟩ : ∃ y_ : List (S50), y_ = (([(⟨0, 10000⟩ : S50), (⟨1000, 20000⟩ : S50)] : List (S50))) := ⟨_, rfl⟩
  replace H : ((tier_Grains.f k (([(⟨100000, 15000⟩ : S43)] : List (S43))) 4392).bind fun bt223 => ((tier_Slices.f k y217 true (-1500)).bind fun t227 => ((corebankref14_Same.f k t227 (([(⟨1000, 10000⟩ : S43), (⟨500, 20000⟩ : S43)] : List (S43)))).bind fun t233 => (if t233 = true then ((tier_Slices.f k y217 false 1000).bind fun t234 => ((corebankref14_Same.f k t234 (([(⟨1000, 20000⟩ : S43)] : List (S43)))).bind fun t240 => (if t240 = true then ((tier_Rate.f k y217 999).bind fun t241 => (if t241 = 10000 then ((corebankref01_Of.f 6588000000000).bind fun bt242 => (if (bt223.1 == bt242.1 && (bt223.2.1 == bt242.2)) = true then (if bt223.2.2 = 0 then ((tier_Check.f (([(⟨1, 1⟩ : S50)] : List (S50)))).bind fun t247 => (some (t247 == 1))) else (some false)) else (some false))) else (some false))) else (some false)))) else (some false))))) = some r := by first | (rw [hy217]; with_reducible exact H) | (have H2_ := (Option.bind_some _ _).symm.trans H; rw [hy217]; with_reducible exact H2_) | (have H2_ := (Option.bind_some _ _).symm.trans H; with_reducible exact H2_) | with_reducible exact H | (rw [hy217]; exact H) | exact H
  have Ny217 := Aside0.mk hy217
  clear hy217
  obtain ⟨y220, hy220⟩ : ∃ y_ : List (S43), y_ = (([(⟨100000, 15000⟩ : S43)] : List (S43))) := ⟨_, rfl⟩
  replace H : ((tier_Grains.f k y220 4392).bind fun bt223 => ((tier_Slices.f k y217 true (-1500)).bind fun t227 => ((corebankref14_Same.f k t227 (([(⟨1000, 10000⟩ : S43), (⟨500, 20000⟩ : S43)] : List (S43)))).bind fun t233 => (if t233 = true then ((tier_Slices.f k y217 false 1000).bind fun t234 => ((corebankref14_Same.f k t234 (([(⟨1000, 20000⟩ : S43)] : List (S43)))).bind fun t240 => (if t240 = true then ((tier_Rate.f k y217 999).bind fun t241 => (if t241 = 10000 then ((corebankref01_Of.f 6588000000000).bind fun bt242 => (if (bt223.1 == bt242.1 && (bt223.2.1 == bt242.2)) = true then (if bt223.2.2 = 0 then ((tier_Check.f (([(⟨1, 1⟩ : S50)] : List (S50)))).bind fun t247 => (some (t247 == 1))) else (some false)) else (some false))) else (some false))) else (some false)))) else (some false))))) = some r := by first | (rw [hy220]; with_reducible exact H) | (have H2_ := (Option.bind_some _ _).symm.trans H; rw [hy220]; with_reducible exact H2_) | (have H2_ := (Option.bind_some _ _).symm.trans H; with_reducible exact H2_) | with_reducible exact H | (rw [hy220]; exact H) | exact H
  have Ny220 := Aside0.mk hy220
  clear hy220
  replace H := Option.bind_eq_some_iff.mp H
  obtain ⟨⟨t223, t224, t225⟩, A10, H⟩ := H
  replace H : ((tier_Slices.f k y217 true (-1500)).bind fun t227 => ((corebankref14_Same.f k t227 (([(⟨1000, 10000⟩ : S43), (⟨500, 20000⟩ : S43)] : List (S43)))).bind fun t233 => (if t233 = true then ((tier_Slices.f k y217 false 1000).bind fun t234 => ((corebankref14_Same.f k t234 (([(⟨1000, 20000⟩ : S43)] : List (S43)))).bind fun t240 => (if t240 = true then ((tier_Rate.f k y217 999).bind fun t241 => (if t241 = 10000 then ((corebankref01_Of.f 6588000000000).bind fun bt242 => (if (t223 == bt242.1 && (t224 == bt242.2)) = true then (if t225 = 0 then ((tier_Check.f (([(⟨1, 1⟩ : S50)] : List (S50)))).bind fun t247 => (some (t247 == 1))) else (some false)) else (some false))) else (some false))) else (some false)))) else (some false)))) = some r := H
  have A1 := Aside0.mk A10
  clear A10
  replace H := Option.bind_eq_some_iff.mp H
  obtain ⟨t227, A20, H⟩ := H
  replace H : ((corebankref14_Same.f k t227 (([(⟨1000, 10000⟩ : S43), (⟨500, 20000⟩ : S43)] : List (S43)))).bind fun t233 => (if t233 = true then ((tier_Slices.f k y217 false 1000).bind fun t234 => ((corebankref14_Same.f k t234 (([(⟨1000, 20000⟩ : S43)] : List (S43)))).bind fun t240 => (if t240 = true then ((tier_Rate.f k y217 999).bind fun t241 => (if t241 = 10000 then ((corebankref01_Of.f 6588000000000).bind fun bt242 => (if (t223 == bt242.1 && (t224 == bt242.2)) = true then (if t225 = 0 then ((tier_Check.f (([(⟨1, 1⟩ : S50)] : List (S50)))).bind fun t247 => (some (t247 == 1))) else (some false)) else (some false))) else (some false))) else (some false)))) else (some false))) = some r := H
  have A2 := Aside0.mk A20
  clear A20
  obtain ⟨y230, hy230⟩ : ∃ y_ : List (S43), y_ = (([(⟨1000, 10000⟩ : S43), (⟨500, 20000⟩ : S43)] : List (S43))) := ⟨_, rfl⟩
  replace H : ((corebankref14_Same.f k t227 y230).bind fun t233 => (if t233 = true then ((tier_Slices.f k y217 false 1000).bind fun t234 => ((corebankref14_Same.f k t234 (([(⟨1000, 20000⟩ : S43)] : List (S43)))).bind fun t240 => (if t240 = true then ((tier_Rate.f k y217 999).bind fun t241 => (if t241 = 10000 then ((corebankref01_Of.f 6588000000000).bind fun bt242 => (if (t223 == bt242.1 && (t224 == bt242.2)) = true then (if t225 = 0 then ((tier_Check.f (([(⟨1, 1⟩ : S50)] : List (S50)))).bind fun t247 => (some (t247 == 1))) else (some false)) else (some false))) else (some false))) else (some false)))) else (some false))) = some r := by first | (rw [hy230]; with_reducible exact H) | (have H2_ := (Option.bind_some _ _).symm.trans H; rw [hy230]; with_reducible exact H2_) | (have H2_ := (Option.bind_some _ _).symm.trans H; with_reducible exact H2_) | with_reducible exact H | (rw [hy230]; exact H) | exact H
  have Ny230 := Aside0.mk hy230
  clear hy230
  replace H := Option.bind_eq_some_iff.mp H
  obtain ⟨t233, A30, H⟩ := H
  replace H : (if t233 = true then ((tier_Slices.f k y217 false 1000).bind fun t234 => ((corebankref14_Same.f k t234 (([(⟨1000, 20000⟩ : S43)] : List (S43)))).bind fun t240 => (if t240 = true then ((tier_Rate.f k y217 999).bind fun t241 => (if t241 = 10000 then ((corebankref01_Of.f 6588000000000).bind fun bt242 => (if (t223 == bt242.1 && (t224 == bt242.2)) = true then (if t225 = 0 then ((tier_Check.f (([(⟨1, 1⟩ : S50)] : List (S50)))).bind fun t247 => (some (t247 == 1))) else (some false)) else (some false))) else (some false))) else (some false)))) else (some false)) = some r := H
  have A3 := Aside0.mk A30
  clear A30
  by_cases c4 : t233 = true
  · subst c4
    have H1 : ((tier_Slices.f k y217 false 1000).bind fun t234 => ((corebankref14_Same.f k t234 (([(⟨1000, 20000⟩ : S43)] : List (S43)))).bind fun t240 => (if t240 = true then ((tier_Rate.f k y217 999).bind fun t241 => (if t241 = 10000 then ((corebankref01_Of.f 6588000000000).bind fun bt242 => (if (t223 == bt242.1 && (t224 == bt242.2)) = true then (if t225 = 0 then ((tier_Check.f (([(⟨1, 1⟩ : S50)] : List (S50)))).bind fun t247 => (some (t247 == 1))) else (some false)) else (some false))) else (some false))) else (some false)))) = some r := by rw [if_pos rfl] at H; exact H
    clear H
    have H := H1
    clear H1
    replace H := Option.bind_eq_some_iff.mp H
    obtain ⟨t234, A50, H⟩ := H
    replace H : ((corebankref14_Same.f k t234 (([(⟨1000, 20000⟩ : S43)] : List (S43)))).bind fun t240 => (if t240 = true then ((tier_Rate.f k y217 999).bind fun t241 => (if t241 = 10000 then ((corebankref01_Of.f 6588000000000).bind fun bt242 => (if (t223 == bt242.1 && (t224 == bt242.2)) = true then (if t225 = 0 then ((tier_Check.f (([(⟨1, 1⟩ : S50)] : List (S50)))).bind fun t247 => (some (t247 == 1))) else (some false)) else (some false))) else (some false))) else (some false))) = some r := H
    have A5 := Aside0.mk A50
    clear A50
    obtain ⟨y237, hy237⟩ : ∃ y_ : List (S43), y_ = (([(⟨1000, 20000⟩ : S43)] : List (S43))) := ⟨_, rfl⟩
    replace H : ((corebankref14_Same.f k t234 y237).bind fun t240 => (if t240 = true then ((tier_Rate.f k y217 999).bind fun t241 => (if t241 = 10000 then ((corebankref01_Of.f 6588000000000).bind fun bt242 => (if (t223 == bt242.1 && (t224 == bt242.2)) = true then (if t225 = 0 then ((tier_Check.f (([(⟨1, 1⟩ : S50)] : List (S50)))).bind fun t247 => (some (t247 == 1))) else (some false)) else (some false))) else (some false))) else (some false))) = some r := by first | (rw [hy237]; with_reducible exact H) | (have H2_ := (Option.bind_some _ _).symm.trans H; rw [hy237]; with_reducible exact H2_) | (have H2_ := (Option.bind_some _ _).symm.trans H; with_reducible exact H2_) | with_reducible exact H | (rw [hy237]; exact H) | exact H
    have Ny237 := Aside0.mk hy237
    clear hy237
    replace H := Option.bind_eq_some_iff.mp H
    obtain ⟨t240, A60, H⟩ := H
    replace H : (if t240 = true then ((tier_Rate.f k y217 999).bind fun t241 => (if t241 = 10000 then ((corebankref01_Of.f 6588000000000).bind fun bt242 => (if (t223 == bt242.1 && (t224 == bt242.2)) = true then (if t225 = 0 then ((tier_Check.f (([(⟨1, 1⟩ : S50)] : List (S50)))).bind fun t247 => (some (t247 == 1))) else (some false)) else (some false))) else (some false))) else (some false)) = some r := H
    have A6 := Aside0.mk A60
    clear A60
    by_cases c7 : t240 = true
    · subst c7
      have H1 : ((tier_Rate.f k y217 999).bind fun t241 => (if t241 = 10000 then ((corebankref01_Of.f 6588000000000).bind fun bt242 => (if (t223 == bt242.1 && (t224 == bt242.2)) = true then (if t225 = 0 then ((tier_Check.f (([(⟨1, 1⟩ : S50)] : List (S50)))).bind fun t247 => (some (t247 == 1))) else (some false)) else (some false))) else (some false))) = some r := by rw [if_pos rfl] at H; exact H
      clear H
      have H := H1
      clear H1
      replace H := Option.bind_eq_some_iff.mp H
      obtain ⟨t241, A80, H⟩ := H
      replace H : (if t241 = 10000 then ((corebankref01_Of.f 6588000000000).bind fun bt242 => (if (t223 == bt242.1 && (t224 == bt242.2)) = true then (if t225 = 0 then ((tier_Check.f (([(⟨1, 1⟩ : S50)] : List (S50)))).bind fun t247 => (some (t247 == 1))) else (some false)) else (some false))) else (some false)) = some r := H
      have A8 := Aside0.mk A80
      clear A80
      by_cases c9 : t241 = 10000
      · rw [if_pos c9] at H
        have c9b0 : (t241 == 10000) = true := beq_iff_eq.mpr c9
        have c9b1 : (t241 != 10000) = false := bne_eq_false_iff_eq.mpr c9
        clear c9
        replace H := Option.bind_eq_some_iff.mp H
        obtain ⟨⟨t242, t243⟩, A100, H⟩ := H
        replace H : (if (t223 == t242 && (t224 == t243)) = true then (if t225 = 0 then ((tier_Check.f (([(⟨1, 1⟩ : S50)] : List (S50)))).bind fun t247 => (some (t247 == 1))) else (some false)) else (some false)) = some r := H
        have A10 := Aside0.mk A100
        clear A100
        by_cases c11 : (t223 == t242 && (t224 == t243)) = true
        · rw [if_pos c11] at H
          have c11b0 : (t223 == t242 && (t224 == t243)) = true := c11
          (try (have c11b1 : decide (t223 = t242 && (t224 == t243)) = true := by simpa using c11))
          (try (have c11b2 : (t223 == t242 && (t224 == t243)) = true := by simpa using c11))
          clear c11
          by_cases c12 : t225 = 0
          · rw [if_pos c12] at H
            have c12b0 : (t225 == 0) = true := beq_iff_eq.mpr c12
            have c12b1 : (t225 != 0) = false := bne_eq_false_iff_eq.mpr c12
            clear c12
            obtain ⟨y244, hy244⟩ : ∃ y_ : List (S50), y_ = (([(⟨1, 1⟩ : S50)] : List (S50))) := ⟨_, rfl⟩
            replace H : ((tier_Check.f y244).bind fun t247 => (some (t247 == 1))) = some r := by first | (rw [hy244]; with_reducible exact H) | (have H2_ := (Option.bind_some _ _).symm.trans H; rw [hy244]; with_reducible exact H2_) | (have H2_ := (Option.bind_some _ _).symm.trans H; with_reducible exact H2_) | with_reducible exact H | (rw [hy244]; exact H) | exact H
            have Ny244 := Aside0.mk hy244
            clear hy244
            replace H := Option.bind_eq_some_iff.mp H
            obtain ⟨t247, A130, H⟩ := H
            replace H : (some (t247 == 1)) = some r := H
            have A13 := Aside0.mk A130
            clear A130
            obtain rfl := Option.some.inj H
            go_enter Try.func18, Try.ntmps18
            try go_wp2_with (first | ((with_reducible refine gate_dst (N := 6) rfl ?_); (try (refine gate_guard (by rfl) ?_; dsimp only)); refine Kd.R_lit k50 _ 50 ?hg (N := 6) ?hd (xs := ([(⟨0, 10000⟩ : S50), (⟨1000, 20000⟩ : S50)] : List (S50))) (inner := [.int .i64 0, .int .i64 10000, .int .i64 1000, .int .i64 20000]) (ok := fun _ => True) (okp := fun _ => True) ?hr ?hp (fun _ hk => hk) trivial (Below.refl _ _) (Nat.le_refl _) (by simp) ?_; (case hd => rfl); (case hg => rfl); (case hr => first | (go_simp; done) | (go_simp; rfl)); (case hp => exact (Reps.c2 (show Kd.M k50 _ _ _ (⟨0, 10000⟩ : S50) [.int .i64 0, .int .i64 10000] from (k50_mkM _ _ _ (⟨0, 10000⟩ : S50) )) (Reps.c2 (show Kd.M k50 _ _ _ (⟨1000, 20000⟩ : S50) [.int .i64 1000, .int .i64 20000] from (k50_mkM _ _ _ (⟨1000, 20000⟩ : S50) )) (Reps.none _ _)))); intro v218 w14 ho15 hb hg_ hnew_; clear hg_ hnew_; (first | rw [← Ny217.out] at ho15 | (simp only [Int.reduceToNat] at ho15; rw [← Ny217.out] at ho15)); have HO219 := Aside0.mk (Kd.R_lower ho15 (below_size (hq HB))); replace HB := bs HB hb; clear hb ho15) | ((with_reducible refine gate_dst (N := 9) rfl ?_); (try (refine gate_guard (by rfl) ?_; dsimp only)); refine Kd.R_lit k43 _ 43 ?hg (N := 9) ?hd (xs := ([(⟨100000, 15000⟩ : S43)] : List (S43))) (inner := [.int .i64 100000, .int .i64 15000]) (ok := fun _ => True) (okp := fun _ => True) ?hr ?hp (fun _ hk => hk) trivial (Below.refl _ _) (Nat.le_refl _) (by simp) ?_; (case hd => rfl); (case hg => rfl); (case hr => first | (go_simp; done) | (go_simp; rfl)); (case hp => exact (Reps.c2 (show Kd.M k43 _ _ _ (⟨100000, 15000⟩ : S43) [.int .i64 100000, .int .i64 15000] from (k43_mkM _ _ _ (⟨100000, 15000⟩ : S43) )) (Reps.none _ _))); intro v221 w16 ho17 hb hg_ hnew_; clear hg_ hnew_; (first | rw [← Ny220.out] at ho17 | (simp only [Int.reduceToNat] at ho17; rw [← Ny220.out] at ho17)); have HO222 := Aside0.mk (Kd.R_lower ho17 (below_size (hq HB))); replace HO219 := kb HO219 hb; replace HB := bs HB hb; clear hb ho17; obtain ⟨Ao18, co18, eo18⟩ := Kd.R_slice HO222.out; subst eo18) | ((with_reducible refine gate_callee (f := 24) rfl ?_); refine goesL_ (some 10) rfl rfl Try.func24 (by kernel_rfl) rfl #[.slice Ao18 y220.length co18, .int .i64 4392] rfl zm ?_; (with_reducible refine (tier_Grains.calls k _ _ y220 4392 t223 t224 t225 _ ?side1 ?side2 A1.out).mono ?_); (case side1 => repeat (first | exact (Kd.R_reads' HO222.out).2.2 | (with_reducible refine Kd.C_alloc ?_ _) | (with_reducible refine Kd.C_drewN ?_ _) | (with_reducible refine Kd.C_drew ?_))); (case side2 => exact (Kd.R_reads' HO222.out).2.1); rintro e w19 ⟨rfl, hb⟩; refine ⟨_, rfl, ?_⟩; replace HO219 := kb HO219 hb; replace HO222 := kb HO222 hb; replace HB := bs HB hb; (try clear hb); (try clear hb2); (try clear hk); (try clear hi)) | ((with_reducible refine gate_dst (N := 2) rfl ?_); (try (refine gate_guard (by rfl) ?_; dsimp only)); refine box_event ?hg (N := 2) ?hd (cs := #[.int .i64 0, .int .u64 0]) (t := 35) ?hr ?_; (case hd => rfl); (case hg => rfl); (case hr => first | (go_simp; done) | (go_simp; rfl)); intro gb226 hg w20 hbox hb; have BK226 := Aside0.mk (hbox); have GW226 := ge HB hg; have GE226 := ge HB hg; replace HO219 := kb HO219 hb; replace HO222 := kb HO222 hb; replace HB := bs HB hb; clear hb hbox hg; obtain ⟨hcz21_0, hcz21_1, hfz21_0, hfz21_1⟩ := cz2 BK226; obtain ⟨Ao22, co22, eo22⟩ := Kd.R_slice HO219.out; subst eo22))
            have n0_ : Aside0 (Kd.R k50 50 ((w20.setCell ⟨gb226, 0, none⟩ (.int .i64 t223)).setCell ⟨gb226, 1, none⟩ (.int .u64 t224)) w.heap.size (fun _ => True) (.slice Ao22 y217.length co22) y217) := ⟨by (with_reducible repeat (first | apply Kd.R_alloc | apply Kd.R_drewN | apply Kd.R_drew)); exact Kd.R_mono (Kd.R_far (p := ⟨gb226, 1, none⟩) (Kd.R_far (p := ⟨gb226, 0, none⟩) (Kd.R_types HO219.out BK226.out (by decide)) (fun _ hk => hk.2) (.int .i64 t223)) (fun _ hk => hk.2) (.int .u64 t224)) (fun _ hk => trivial)⟩
            have n1_ : Aside0 (Kd.R k43 43 ((w20.setCell ⟨gb226, 0, none⟩ (.int .i64 t223)).setCell ⟨gb226, 1, none⟩ (.int .u64 t224)) w.heap.size (fun _ => True) (.slice Ao18 y220.length co18) y220) := ⟨by (with_reducible repeat (first | apply Kd.R_alloc | apply Kd.R_drewN | apply Kd.R_drew)); exact Kd.R_mono (Kd.R_far (p := ⟨gb226, 1, none⟩) (Kd.R_far (p := ⟨gb226, 0, none⟩) (Kd.R_types HO222.out BK226.out (by decide)) (fun _ hk => hk.2) (.int .i64 t223)) (fun _ hk => hk.2) (.int .u64 t224)) (fun _ hk => trivial)⟩
            have n2_ : Aside0 (((w20.setCell ⟨gb226, 0, none⟩ (.int .i64 t223)).setCell ⟨gb226, 1, none⟩ (.int .u64 t224)).heap[gb226]? = some (.cells #[.int .i64 t223, .int .u64 t224] 35 (0, 0))) := ⟨bp BK226⟩
            have n3_ : Aside0 (Below w.heap.size w ((w20.setCell ⟨gb226, 0, none⟩ (.int .i64 t223)).setCell ⟨gb226, 1, none⟩ (.int .u64 t224))) := ⟨hq HB⟩
            (try clear HO219)
            (try clear HO222)
            (try clear BK226)
            (try clear HB)
            generalize ((w20.setCell ⟨gb226, 0, none⟩ (.int .i64 t223)).setCell ⟨gb226, 1, none⟩ (.int .u64 t224)) = w23 at n0_ n1_ n2_ n3_ ⊢
            have HO219 := n0_
            have HO222 := n1_
            have BK226 := n2_
            have HB := n3_
            clear n0_ n1_ n2_ n3_
            replace HO219 := Aside0.mk (Kd.R_drew HO219.out)
            replace HO222 := Aside0.mk (Kd.R_drew HO222.out)
            replace BK226 := bd1 BK226
            replace HB := hb1 HB
            refine start_ (n := 34) (S := fun w' => w'.cell? ⟨gb226, 0, none⟩ = some (.int .i64 t223) ∧ w'.cell? ⟨gb226, 1, none⟩ = some (.int .u64 t224)) (ds := []) #[false, false, false, false, false, false, false, false, false, false, false, false, false, false, false, false, false, false, false, false, false, false, false, false, false, false, false, false, false, false, false, false, false, false] (by kernel_rfl) rfl rfl ⟨(blk_cell BK226.out 0).trans rfl, (blk_cell BK226.out 1).trans rfl⟩ (fun hHeld => ?_); refine with_tabW corebanklaw14_liveT.tab3 corebanklaw14_liveT.bits3 (fun HT_ HW_ => ?_)
            generalize w23.drew = w24 at HO219 HO222 BK226 HB hHeld ⊢
            refine pz (i := 0) (N := some 13) #[true, false, false, false, false, false, false, false, false, false, false, false, false, false, false, false, false, false, false, false, false, false, false, false, false, false, false, false, false, false, false, false, false, false] rfl rfl (any_of HT_.out (by kernel_rfl)) (fun _ _ _ h => h) ?_
            refine pz (i := 2) (N := some 15) #[true, false, true, false, false, false, false, false, false, false, false, false, false, false, false, false, false, false, false, false, false, false, false, false, false, false, false, false, false, false, false, false, false, false] rfl rfl (any_of HT_.out (by kernel_rfl)) (fun _ _ _ h => h) ?_
            refine pz (i := 3) (N := some 16) #[true, false, true, true, false, false, false, false, false, false, false, false, false, false, false, false, false, false, false, false, false, false, false, false, false, false, false, false, false, false, false, false, false, false] rfl rfl (any_of HT_.out (by kernel_rfl)) (fun _ _ _ h => h) ?_
            refine join_ (σ := Value × Value × Value × Value) 23 #[true, true, true, true, true, true, true, true, true, true, true, false, false, false, false, false, false, false, false, false, false, false, false, false, false, false, false, false, false, false, false, false, false, false] (fun s_ => [(14, s_.1), (17, s_.2.1), (18, .bool true), (21, s_.2.2.1), (23, s_.2.2.2), (19, .bool true), (20, .slice Ao22 y217.length co22), (22, .agg #[.int .i64 1000, .int .i64 20000])]) (fun s_ w' => (w'.cell? ⟨gb226, 0, none⟩ = some (.int .i64 t223) ∧ w'.cell? ⟨gb226, 1, none⟩ = some (.int .u64 t224)) ∧ (Kd.R k50 50 w' w.heap.size (fun _ => True) (.slice Ao22 y217.length co22) y217) ∧ (Kd.R k43 43 w' w.heap.size (fun k_ => some k_ ≠ (s_.1 : Value).ownBlock ∧ some k_ ≠ (s_.2.1 : Value).ownBlock ∧ some k_ ≠ (s_.2.2.1 : Value).ownBlock ∧ some k_ ≠ (s_.2.2.2 : Value).ownBlock) (.slice Ao18 y220.length co18) y220) ∧ (Kd.R k43 43 w' w.heap.size (fun k_ => some k_ ≠ (.slice Ao18 y220.length co18 : Value).ownBlock ∧ some k_ ≠ (s_.2.1 : Value).ownBlock ∧ some k_ ≠ (s_.2.2.1 : Value).ownBlock ∧ some k_ ≠ (s_.2.2.2 : Value).ownBlock) s_.1 t227) ∧ (Kd.R k43 43 w' w.heap.size (fun k_ => some k_ ≠ (.slice Ao18 y220.length co18 : Value).ownBlock ∧ some k_ ≠ (s_.1 : Value).ownBlock ∧ some k_ ≠ (s_.2.2.1 : Value).ownBlock ∧ some k_ ≠ (s_.2.2.2 : Value).ownBlock) s_.2.1 y230) ∧ (Kd.R k43 43 w' w.heap.size (fun k_ => some k_ ≠ (.slice Ao18 y220.length co18 : Value).ownBlock ∧ some k_ ≠ (s_.1 : Value).ownBlock ∧ some k_ ≠ (s_.2.1 : Value).ownBlock ∧ some k_ ≠ (s_.2.2.2 : Value).ownBlock) s_.2.2.1 t234) ∧ (Kd.R k43 43 w' w.heap.size (fun k_ => some k_ ≠ (.slice Ao18 y220.length co18 : Value).ownBlock ∧ some k_ ≠ (s_.1 : Value).ownBlock ∧ some k_ ≠ (s_.2.1 : Value).ownBlock ∧ some k_ ≠ (s_.2.2.1 : Value).ownBlock) s_.2.2.2 y237) ∧ (w'.heap[gb226]? = some (.cells #[.int .i64 t223, .int .u64 t224] 35 (0, 0))) ∧ (Below w.heap.size w w')) ?_ ?_
            rotate_left
            · intro hCont
              refine two_ (i := 1) (j := 4) (Ni := some 14) (Nj := some 17) #[true, true, true, true, false, false, false, false, false, false, false, false, false, false, false, false, false, false, false, false, false, false, false, false, false, false, false, false, false, false, false, false, false, false] #[true, false, true, true, true, false, false, false, false, false, false, false, false, false, false, false, false, false, false, false, false, false, false, false, false, false, false, false, false, false, false, false, false, false] rfl rfl rfl rfl (two_of HT_.out (by kernel_rfl)) (by decide) (by decide) (fun K hK => ?_) (fun K hK => ?_)
              · skip
                refine goes_ Try.func22 (by kernel_rfl) rfl #[.slice Ao22 y217.length co22, .bool true, .int .i64 (-1500)] (by rfl) rfl rfl zm ?_
                with_reducible refine (tier_Slices.calls k _ _ y217 true (-1500) t227 _ ?side1 ?side2 A2.out).mono ?_
                (case side1 => repeat (first | exact (Kd.R_reads' HO219.out).2.2 | (with_reducible refine Kd.C_alloc ?_ _) | (with_reducible refine Kd.C_drewN ?_ _) | (with_reducible refine Kd.C_drew ?_)))
                (case side2 => exact (Kd.R_reads' HO219.out).2.1)
                rintro e w25 ⟨v228, rfl, ho0, hb⟩
                refine ⟨_, rfl, ?_⟩
                have HO229 := Aside0.mk (Kd.R_lower (Kd.R_new' ho0 (Kd.R_lt (kq HO222))) (below_size (hq HB)))
                replace HO219 := kb HO219 hb
                replace HO222 := Aside0.mk (Kd.R_elder' (kq HO222) (Kd.R_base ho0) hb)
                replace BK226 := bb BK226 hb
                replace HB := bs HB hb
                (try clear hb)
                (try clear hb2)
                (try clear hk)
                (try clear hi)
                (try clear ho0)
                refine hK.out _ _ ⟨(blk_cell BK226.out 0).trans rfl, (blk_cell BK226.out 1).trans rfl⟩ (fun hHeld => ?_)
                clear hK K
                refine norm_ (a' := ?_) ?_ ?_
                rotate_left
                · show Act.put _ (some 14) _ = _
                  simp only [Act.put, List.setIfInBounds_toArray, List.set_cons_zero, List.set_cons_succ, i64_w, i32_w]
                  rfl
                refine one_ (i := 4) (N := some 17) #[true, true, true, true, true, false, false, false, false, false, false, false, false, false, false, false, false, false, false, false, false, false, false, false, false, false, false, false, false, false, false, false, false, false] rfl rfl (one_of HT_.out (by kernel_rfl)) (by decide) (fun K hK => ?_)
                refine Kd.R_lit_step k43 _ 43 ?hg (N := 17) ?hd (xs := ([(⟨1000, 10000⟩ : S43), (⟨500, 20000⟩ : S43)] : List (S43))) (inner := [.int .i64 1000, .int .i64 10000, .int .i64 500, .int .i64 20000]) (ok := fun _ => True) (okp := fun _ => True) ?hr ?hp (fun _ hk => hk) trivial (Below.refl _ _) (Nat.le_refl _) (by simp) ?_; (case hd => rfl); (case hg => rfl); (case hr => first | (go_simp; done) | (go_simp; rfl)); (case hp => exact (Reps.c2 (show Kd.M k43 _ _ _ (⟨1000, 10000⟩ : S43) [.int .i64 1000, .int .i64 10000] from (k43_mkM _ _ _ (⟨1000, 10000⟩ : S43) )) (Reps.c2 (show Kd.M k43 _ _ _ (⟨500, 20000⟩ : S43) [.int .i64 500, .int .i64 20000] from (k43_mkM _ _ _ (⟨500, 20000⟩ : S43) )) (Reps.none _ _))))
                intro v231 w26 ho27 hb hg_ hnew_
                clear hg_ hnew_
                (first | rw [← Ny230.out] at ho27 | (simp only [Int.reduceToNat] at ho27; rw [← Ny230.out] at ho27))
                have HO232 := Aside0.mk (Kd.R_lower (Kd.R_new' (Kd.R_new' ho27 (Kd.R_lt (kq HO222))) (Kd.R_lt (kq HO229))) (below_size (hq HB)))
                replace HO219 := kb HO219 hb
                replace HO222 := Aside0.mk (Kd.R_elder' (kq HO222) (Kd.R_base ho27) hb)
                replace HO229 := Aside0.mk (Kd.R_elder' (kq HO229) (Kd.R_base ho27) hb)
                replace BK226 := bb BK226 hb
                replace HB := bs HB hb
                clear hb ho27
                obtain ⟨Ao28, co28, eo28⟩ := Kd.R_slice HO229.out
                (first | subst eo28 | (injection eo28 with f1_ f2_ f3_; have f4_ := f1_.symm; have f5_ := f3_.symm; clear f1_ f2_ f3_; subst f4_; subst f5_))
                obtain ⟨Ao29, co29, eo29⟩ := Kd.R_slice HO232.out
                (first | subst eo29 | (injection eo29 with f1_ f2_ f3_; have f4_ := f1_.symm; have f5_ := f3_.symm; clear f1_ f2_ f3_; subst f4_; subst f5_))
                refine hK.out _ _ ⟨(blk_cell BK226.out 0).trans rfl, (blk_cell BK226.out 1).trans rfl⟩ (fun hHeld => ?_)
                clear hK K
                refine norm_ (a' := ?_) ?_ ?_
                rotate_left
                · show Act.put _ (some 17) _ = _
                  simp only [Act.put, List.setIfInBounds_toArray, List.set_cons_zero, List.set_cons_succ, i64_w, i32_w]
                  rfl
                refine one_ (i := 5) (N := some 18) #[true, true, true, true, true, true, false, false, false, false, false, false, false, false, false, false, false, false, false, false, false, false, false, false, false, false, false, false, false, false, false, false, false, false] rfl rfl (one_of HT_.out (by kernel_rfl)) (by decide) (fun K hK => ?_)
                refine goes_ Try.func21 (by kernel_rfl) rfl #[.slice Ao28 t227.length co28, .slice Ao29 y230.length co29] (by rfl) rfl rfl zm ?_
                with_reducible refine (corebankref14_Same.calls k _ _ t227 _ _ y230 true _ ?side1 ?side2 ?side3 ?side4 A3.out).mono ?_
                (case side1 => repeat (first | exact (Kd.R_reads' HO229.out).2.2 | (with_reducible refine Kd.C_alloc ?_ _) | (with_reducible refine Kd.C_drewN ?_ _) | (with_reducible refine Kd.C_drew ?_)))
                (case side2 => exact (Kd.R_reads' HO229.out).2.1)
                (case side3 => repeat (first | exact (Kd.R_reads' HO232.out).2.2 | (with_reducible refine Kd.C_alloc ?_ _) | (with_reducible refine Kd.C_drewN ?_ _) | (with_reducible refine Kd.C_drew ?_)))
                (case side4 => exact (Kd.R_reads' HO232.out).2.1)
                rintro e w' ⟨rfl, ⟨nd, rfl⟩⟩
                refine ⟨_, rfl, ?_⟩
                refine hK.out _ _ ⟨(blk_cell BK226.out 0).trans rfl, (blk_cell BK226.out 1).trans rfl⟩ (fun hHeld => ?_)
                clear hK K
                refine norm_ (a' := ?_) ?_ ?_
                rotate_left
                · show Act.put _ (some 18) _ = _
                  simp only [Act.put, List.setIfInBounds_toArray, List.set_cons_zero, List.set_cons_succ, i64_w, i32_w]
                  rfl
                refine pz (i := 6) (N := some 19) #[true, true, true, true, true, true, true, false, false, false, false, false, false, false, false, false, false, false, false, false, false, false, false, false, false, false, false, false, false, false, false, false, false, false] rfl rfl (any_of HT_.out (by kernel_rfl)) (fun _ _ _ h => h) ?_
                refine pz (i := 7) (N := some 20) #[true, true, true, true, true, true, true, true, false, false, false, false, false, false, false, false, false, false, false, false, false, false, false, false, false, false, false, false, false, false, false, false, false, false] rfl rfl (any_of HT_.out (by kernel_rfl)) (fun _ _ _ h => h) ?_
                refine pz (i := 9) (N := some 22) #[true, true, true, true, true, true, true, true, false, true, false, false, false, false, false, false, false, false, false, false, false, false, false, false, false, false, false, false, false, false, false, false, false, false] rfl rfl (any_of HT_.out (by kernel_rfl)) (fun _ _ _ h => h) ?_
                refine two_ (i := 8) (j := 10) (Ni := some 21) (Nj := some 23) #[true, true, true, true, true, true, true, true, true, true, false, false, false, false, false, false, false, false, false, false, false, false, false, false, false, false, false, false, false, false, false, false, false, false] #[true, true, true, true, true, true, true, true, false, true, true, false, false, false, false, false, false, false, false, false, false, false, false, false, false, false, false, false, false, false, false, false, false, false] rfl rfl rfl rfl (two_of HT_.out (by kernel_rfl)) (by decide) (by decide) (fun K hK => ?_) (fun K hK => ?_)
                · skip
                  refine goes_ Try.func22 (by kernel_rfl) rfl #[.slice Ao22 y217.length co22, .bool false, .int .i64 1000] (by rfl) rfl rfl zm ?_
                  with_reducible refine (tier_Slices.calls k _ _ y217 false 1000 t234 _ ?side1 ?side2 A5.out).mono ?_
                  (case side1 => repeat (first | exact (Kd.R_reads' HO219.out).2.2 | (with_reducible refine Kd.C_alloc ?_ _) | (with_reducible refine Kd.C_drewN ?_ _) | (with_reducible refine Kd.C_drew ?_)))
                  (case side2 => exact (Kd.R_reads' HO219.out).2.1)
                  rintro e w30 ⟨v235, rfl, ho0, hb⟩
                  refine ⟨_, rfl, ?_⟩
                  have HO236 := Aside0.mk (Kd.R_lower (Kd.R_new' (Kd.R_new' (Kd.R_new' ho0 (Kd.R_lt (kq HO222))) (Kd.R_lt (kq HO229))) (Kd.R_lt (kq HO232))) (below_size (hq HB)))
                  replace HO219 := kb HO219 hb
                  replace HO222 := Aside0.mk (Kd.R_elder' (kq HO222) (Kd.R_base ho0) hb)
                  replace HO229 := Aside0.mk (Kd.R_elder' (kq HO229) (Kd.R_base ho0) hb)
                  replace HO232 := Aside0.mk (Kd.R_elder' (kq HO232) (Kd.R_base ho0) hb)
                  replace BK226 := bb BK226 hb
                  replace HB := bs HB hb
                  (try clear hb)
                  (try clear hb2)
                  (try clear hk)
                  (try clear hi)
                  (try clear ho0)
                  refine hK.out _ _ ⟨(blk_cell BK226.out 0).trans rfl, (blk_cell BK226.out 1).trans rfl⟩ (fun hHeld => ?_)
                  clear hK K
                  refine norm_ (a' := ?_) ?_ ?_
                  rotate_left
                  · show Act.put _ (some 21) _ = _
                    simp only [Act.put, List.setIfInBounds_toArray, List.set_cons_zero, List.set_cons_succ, i64_w, i32_w]
                    rfl
                  refine one_ (i := 10) (N := some 23) #[true, true, true, true, true, true, true, true, true, true, true, false, false, false, false, false, false, false, false, false, false, false, false, false, false, false, false, false, false, false, false, false, false, false] rfl rfl (one_of HT_.out (by kernel_rfl)) (by decide) (fun K hK => ?_)
                  refine Kd.R_lit_step k43 _ 43 ?hg (N := 23) ?hd (xs := ([(⟨1000, 20000⟩ : S43)] : List (S43))) (inner := [.int .i64 1000, .int .i64 20000]) (ok := fun _ => True) (okp := fun _ => True) ?hr ?hp (fun _ hk => hk) trivial (Below.refl _ _) (Nat.le_refl _) (by simp) ?_; (case hd => rfl); (case hg => rfl); (case hr => first | (go_simp; done) | (go_simp; rfl)); (case hp => exact (Reps.c2 (show Kd.M k43 _ _ _ (⟨1000, 20000⟩ : S43) [.int .i64 1000, .int .i64 20000] from (k43_mkM _ _ _ (⟨1000, 20000⟩ : S43) )) (Reps.none _ _)))
                  intro v238 w31 ho32 hb hg_ hnew_
                  clear hg_ hnew_
                  (first | rw [← Ny237.out] at ho32 | (simp only [Int.reduceToNat] at ho32; rw [← Ny237.out] at ho32))
                  have HO239 := Aside0.mk (Kd.R_lower (Kd.R_new' (Kd.R_new' (Kd.R_new' (Kd.R_new' ho32 (Kd.R_lt (kq HO222))) (Kd.R_lt (kq HO229))) (Kd.R_lt (kq HO232))) (Kd.R_lt (kq HO236))) (below_size (hq HB)))
                  replace HO219 := kb HO219 hb
                  replace HO222 := Aside0.mk (Kd.R_elder' (kq HO222) (Kd.R_base ho32) hb)
                  replace HO229 := Aside0.mk (Kd.R_elder' (kq HO229) (Kd.R_base ho32) hb)
                  replace HO232 := Aside0.mk (Kd.R_elder' (kq HO232) (Kd.R_base ho32) hb)
                  replace HO236 := Aside0.mk (Kd.R_elder' (kq HO236) (Kd.R_base ho32) hb)
                  replace BK226 := bb BK226 hb
                  replace HB := bs HB hb
                  clear hb ho32
                  refine hK.out _ _ ⟨(blk_cell BK226.out 0).trans rfl, (blk_cell BK226.out 1).trans rfl⟩ (fun hHeld => ?_)
                  clear hK K
                  refine norm_ (a' := ?_) ?_ ?_
                  rotate_left
                  · show Act.put _ (some 23) _ = _
                    simp only [Act.put, List.setIfInBounds_toArray, List.set_cons_zero, List.set_cons_succ, i64_w, i32_w]
                    rfl
                  exact norm_ (by simp only [putAll, Act.put, List.setIfInBounds_toArray, List.set_cons_zero, List.set_cons_succ]) (hCont (.slice Ao28 t227.length co28, .slice Ao29 y230.length co29, v235, v238) _ ⟨hHeld, (kq HO219), (by (with_reducible repeat (first | apply Kd.R_alloc | apply Kd.R_drewN | apply Kd.R_drew)); exact Kd.R_mono HO222.out (fun _ hk => ⟨hk.1.1.1.2, ⟨hk.1.1.2, ⟨hk.1.2, hk.2⟩⟩⟩)), (by (with_reducible repeat (first | apply Kd.R_alloc | apply Kd.R_drewN | apply Kd.R_drew)); exact Kd.R_mono HO229.out (fun _ hk => ⟨hk.1.1.1.2, ⟨hk.1.1.2, ⟨hk.1.2, hk.2⟩⟩⟩)), (by (with_reducible repeat (first | apply Kd.R_alloc | apply Kd.R_drewN | apply Kd.R_drew)); exact Kd.R_mono HO232.out (fun _ hk => ⟨hk.1.1.1.2, ⟨hk.1.1.2, ⟨hk.1.2, hk.2⟩⟩⟩)), (by (with_reducible repeat (first | apply Kd.R_alloc | apply Kd.R_drewN | apply Kd.R_drew)); exact Kd.R_mono HO236.out (fun _ hk => ⟨hk.1.1.1.2, ⟨hk.1.1.2, ⟨hk.1.2, hk.2⟩⟩⟩)), (by (with_reducible repeat (first | apply Kd.R_alloc | apply Kd.R_drewN | apply Kd.R_drew)); exact Kd.R_mono HO239.out (fun _ hk => ⟨hk.1.1.1.2, ⟨hk.1.1.2, ⟨hk.1.2, hk.2⟩⟩⟩)), (bq BK226), (hq HB)⟩)
                · skip
                  refine Kd.R_lit_step k43 _ 43 ?hg (N := 23) ?hd (xs := ([(⟨1000, 20000⟩ : S43)] : List (S43))) (inner := [.int .i64 1000, .int .i64 20000]) (ok := fun _ => True) (okp := fun _ => True) ?hr ?hp (fun _ hk => hk) trivial (Below.refl _ _) (Nat.le_refl _) (by simp) ?_; (case hd => rfl); (case hg => rfl); (case hr => first | (go_simp; done) | (go_simp; rfl)); (case hp => exact (Reps.c2 (show Kd.M k43 _ _ _ (⟨1000, 20000⟩ : S43) [.int .i64 1000, .int .i64 20000] from (k43_mkM _ _ _ (⟨1000, 20000⟩ : S43) )) (Reps.none _ _)))
                  intro v238 w30 ho31 hb hg_ hnew_
                  clear hg_ hnew_
                  (first | rw [← Ny237.out] at ho31 | (simp only [Int.reduceToNat] at ho31; rw [← Ny237.out] at ho31))
                  have HO239 := Aside0.mk (Kd.R_lower (Kd.R_new' (Kd.R_new' (Kd.R_new' ho31 (Kd.R_lt (kq HO222))) (Kd.R_lt (kq HO229))) (Kd.R_lt (kq HO232))) (below_size (hq HB)))
                  replace HO219 := kb HO219 hb
                  replace HO222 := Aside0.mk (Kd.R_elder' (kq HO222) (Kd.R_base ho31) hb)
                  replace HO229 := Aside0.mk (Kd.R_elder' (kq HO229) (Kd.R_base ho31) hb)
                  replace HO232 := Aside0.mk (Kd.R_elder' (kq HO232) (Kd.R_base ho31) hb)
                  replace BK226 := bb BK226 hb
                  replace HB := bs HB hb
                  clear hb ho31
                  refine hK.out _ _ ⟨(blk_cell BK226.out 0).trans rfl, (blk_cell BK226.out 1).trans rfl⟩ (fun hHeld => ?_)
                  clear hK K
                  refine norm_ (a' := ?_) ?_ ?_
                  rotate_left
                  · show Act.put _ (some 23) _ = _
                    simp only [Act.put, List.setIfInBounds_toArray, List.set_cons_zero, List.set_cons_succ, i64_w, i32_w]
                    rfl
                  refine one_ (i := 8) (N := some 21) #[true, true, true, true, true, true, true, true, true, true, true, false, false, false, false, false, false, false, false, false, false, false, false, false, false, false, false, false, false, false, false, false, false, false] rfl rfl (one_of HT_.out (by kernel_rfl)) (by decide) (fun K hK => ?_)
                  refine goes_ Try.func22 (by kernel_rfl) rfl #[.slice Ao22 y217.length co22, .bool false, .int .i64 1000] (by rfl) rfl rfl zm ?_
                  with_reducible refine (tier_Slices.calls k _ _ y217 false 1000 t234 _ ?side1 ?side2 A5.out).mono ?_
                  (case side1 => repeat (first | exact (Kd.R_reads' HO219.out).2.2 | (with_reducible refine Kd.C_alloc ?_ _) | (with_reducible refine Kd.C_drewN ?_ _) | (with_reducible refine Kd.C_drew ?_)))
                  (case side2 => exact (Kd.R_reads' HO219.out).2.1)
                  rintro e w32 ⟨v235, rfl, ho0, hb⟩
                  refine ⟨_, rfl, ?_⟩
                  have HO236 := Aside0.mk (Kd.R_lower (Kd.R_new' (Kd.R_new' (Kd.R_new' (Kd.R_new' ho0 (Kd.R_lt (kq HO222))) (Kd.R_lt (kq HO229))) (Kd.R_lt (kq HO232))) (Kd.R_lt (kq HO239))) (below_size (hq HB)))
                  replace HO219 := kb HO219 hb
                  replace HO222 := Aside0.mk (Kd.R_elder' (kq HO222) (Kd.R_base ho0) hb)
                  replace HO229 := Aside0.mk (Kd.R_elder' (kq HO229) (Kd.R_base ho0) hb)
                  replace HO232 := Aside0.mk (Kd.R_elder' (kq HO232) (Kd.R_base ho0) hb)
                  replace HO239 := Aside0.mk (Kd.R_elder' (kq HO239) (Kd.R_base ho0) hb)
                  replace BK226 := bb BK226 hb
                  replace HB := bs HB hb
                  (try clear hb)
                  (try clear hb2)
                  (try clear hk)
                  (try clear hi)
                  (try clear ho0)
                  refine hK.out _ _ ⟨(blk_cell BK226.out 0).trans rfl, (blk_cell BK226.out 1).trans rfl⟩ (fun hHeld => ?_)
                  clear hK K
                  refine norm_ (a' := ?_) ?_ ?_
                  rotate_left
                  · show Act.put _ (some 21) _ = _
                    simp only [Act.put, List.setIfInBounds_toArray, List.set_cons_zero, List.set_cons_succ, i64_w, i32_w]
                    rfl
                  exact norm_ (by simp only [putAll, Act.put, List.setIfInBounds_toArray, List.set_cons_zero, List.set_cons_succ]) (hCont (.slice Ao28 t227.length co28, .slice Ao29 y230.length co29, v235, v238) _ ⟨hHeld, (kq HO219), (by (with_reducible repeat (first | apply Kd.R_alloc | apply Kd.R_drewN | apply Kd.R_drew)); exact Kd.R_mono HO222.out (fun _ hk => ⟨hk.1.1.1.2, ⟨hk.1.1.2, ⟨hk.2, hk.1.2⟩⟩⟩)), (by (with_reducible repeat (first | apply Kd.R_alloc | apply Kd.R_drewN | apply Kd.R_drew)); exact Kd.R_mono HO229.out (fun _ hk => ⟨hk.1.1.1.2, ⟨hk.1.1.2, ⟨hk.2, hk.1.2⟩⟩⟩)), (by (with_reducible repeat (first | apply Kd.R_alloc | apply Kd.R_drewN | apply Kd.R_drew)); exact Kd.R_mono HO232.out (fun _ hk => ⟨hk.1.1.1.2, ⟨hk.1.1.2, ⟨hk.2, hk.1.2⟩⟩⟩)), (by (with_reducible repeat (first | apply Kd.R_alloc | apply Kd.R_drewN | apply Kd.R_drew)); exact Kd.R_mono HO236.out (fun _ hk => ⟨hk.1.1.1.2, ⟨hk.1.1.2, ⟨hk.1.2, hk.2⟩⟩⟩)), (by (with_reducible repeat (first | apply Kd.R_alloc | apply Kd.R_drewN | apply Kd.R_drew)); exact Kd.R_mono HO239.out (fun _ hk => ⟨hk.1.1.1.2, ⟨hk.1.1.2, ⟨hk.1.2, hk.2⟩⟩⟩)), (bq BK226), (hq HB)⟩)
              · skip
                refine Kd.R_lit_step k43 _ 43 ?hg (N := 17) ?hd (xs := ([(⟨1000, 10000⟩ : S43), (⟨500, 20000⟩ : S43)] : List (S43))) (inner := [.int .i64 1000, .int .i64 10000, .int .i64 500, .int .i64 20000]) (ok := fun _ => True) (okp := fun _ => True) ?hr ?hp (fun _ hk => hk) trivial (Below.refl _ _) (Nat.le_refl _) (by simp) ?_; (case hd => rfl); (case hg => rfl); (case hr => first | (go_simp; done) | (go_simp; rfl)); (case hp => exact (Reps.c2 (show Kd.M k43 _ _ _ (⟨1000, 10000⟩ : S43) [.int .i64 1000, .int .i64 10000] from (k43_mkM _ _ _ (⟨1000, 10000⟩ : S43) )) (Reps.c2 (show Kd.M k43 _ _ _ (⟨500, 20000⟩ : S43) [.int .i64 500, .int .i64 20000] from (k43_mkM _ _ _ (⟨500, 20000⟩ : S43) )) (Reps.none _ _))))
                intro v231 w25 ho26 hb hg_ hnew_
                clear hg_ hnew_
                (first | rw [← Ny230.out] at ho26 | (simp only [Int.reduceToNat] at ho26; rw [← Ny230.out] at ho26))
                have HO232 := Aside0.mk (Kd.R_lower (Kd.R_new' ho26 (Kd.R_lt (kq HO222))) (below_size (hq HB)))
                replace HO219 := kb HO219 hb
                replace HO222 := Aside0.mk (Kd.R_elder' (kq HO222) (Kd.R_base ho26) hb)
                replace BK226 := bb BK226 hb
                replace HB := bs HB hb
                clear hb ho26
                refine hK.out _ _ ⟨(blk_cell BK226.out 0).trans rfl, (blk_cell BK226.out 1).trans rfl⟩ (fun hHeld => ?_)
                clear hK K
                refine norm_ (a' := ?_) ?_ ?_
                rotate_left
                · show Act.put _ (some 17) _ = _
                  simp only [Act.put, List.setIfInBounds_toArray, List.set_cons_zero, List.set_cons_succ, i64_w, i32_w]
                  rfl
                refine one_ (i := 1) (N := some 14) #[true, true, true, true, true, false, false, false, false, false, false, false, false, false, false, false, false, false, false, false, false, false, false, false, false, false, false, false, false, false, false, false, false, false] rfl rfl (one_of HT_.out (by kernel_rfl)) (by decide) (fun K hK => ?_)
                refine goes_ Try.func22 (by kernel_rfl) rfl #[.slice Ao22 y217.length co22, .bool true, .int .i64 (-1500)] (by rfl) rfl rfl zm ?_
                with_reducible refine (tier_Slices.calls k _ _ y217 true (-1500) t227 _ ?side1 ?side2 A2.out).mono ?_
                (case side1 => repeat (first | exact (Kd.R_reads' HO219.out).2.2 | (with_reducible refine Kd.C_alloc ?_ _) | (with_reducible refine Kd.C_drewN ?_ _) | (with_reducible refine Kd.C_drew ?_)))
                (case side2 => exact (Kd.R_reads' HO219.out).2.1)
                rintro e w27 ⟨v228, rfl, ho0, hb⟩
                refine ⟨_, rfl, ?_⟩
                have HO229 := Aside0.mk (Kd.R_lower (Kd.R_new' (Kd.R_new' ho0 (Kd.R_lt (kq HO222))) (Kd.R_lt (kq HO232))) (below_size (hq HB)))
                replace HO219 := kb HO219 hb
                replace HO222 := Aside0.mk (Kd.R_elder' (kq HO222) (Kd.R_base ho0) hb)
                replace HO232 := Aside0.mk (Kd.R_elder' (kq HO232) (Kd.R_base ho0) hb)
                replace BK226 := bb BK226 hb
                replace HB := bs HB hb
                (try clear hb)
                (try clear hb2)
                (try clear hk)
                (try clear hi)
                (try clear ho0)
                obtain ⟨Ao28, co28, eo28⟩ := Kd.R_slice HO229.out
                (first | subst eo28 | (injection eo28 with f1_ f2_ f3_; have f4_ := f1_.symm; have f5_ := f3_.symm; clear f1_ f2_ f3_; subst f4_; subst f5_))
                obtain ⟨Ao29, co29, eo29⟩ := Kd.R_slice HO232.out
                (first | subst eo29 | (injection eo29 with f1_ f2_ f3_; have f4_ := f1_.symm; have f5_ := f3_.symm; clear f1_ f2_ f3_; subst f4_; subst f5_))
                refine hK.out _ _ ⟨(blk_cell BK226.out 0).trans rfl, (blk_cell BK226.out 1).trans rfl⟩ (fun hHeld => ?_)
                clear hK K
                refine norm_ (a' := ?_) ?_ ?_
                rotate_left
                · show Act.put _ (some 14) _ = _
                  simp only [Act.put, List.setIfInBounds_toArray, List.set_cons_zero, List.set_cons_succ, i64_w, i32_w]
                  rfl
                refine one_ (i := 5) (N := some 18) #[true, true, true, true, true, true, false, false, false, false, false, false, false, false, false, false, false, false, false, false, false, false, false, false, false, false, false, false, false, false, false, false, false, false] rfl rfl (one_of HT_.out (by kernel_rfl)) (by decide) (fun K hK => ?_)
                refine goes_ Try.func21 (by kernel_rfl) rfl #[.slice Ao28 t227.length co28, .slice Ao29 y230.length co29] (by rfl) rfl rfl zm ?_
                with_reducible refine (corebankref14_Same.calls k _ _ t227 _ _ y230 true _ ?side1 ?side2 ?side3 ?side4 A3.out).mono ?_
                (case side1 => repeat (first | exact (Kd.R_reads' HO229.out).2.2 | (with_reducible refine Kd.C_alloc ?_ _) | (with_reducible refine Kd.C_drewN ?_ _) | (with_reducible refine Kd.C_drew ?_)))
                (case side2 => exact (Kd.R_reads' HO229.out).2.1)
                (case side3 => repeat (first | exact (Kd.R_reads' HO232.out).2.2 | (with_reducible refine Kd.C_alloc ?_ _) | (with_reducible refine Kd.C_drewN ?_ _) | (with_reducible refine Kd.C_drew ?_)))
                (case side4 => exact (Kd.R_reads' HO232.out).2.1)
                rintro e w' ⟨rfl, ⟨nd, rfl⟩⟩
                refine ⟨_, rfl, ?_⟩
                refine hK.out _ _ ⟨(blk_cell BK226.out 0).trans rfl, (blk_cell BK226.out 1).trans rfl⟩ (fun hHeld => ?_)
                clear hK K
                refine norm_ (a' := ?_) ?_ ?_
                rotate_left
                · show Act.put _ (some 18) _ = _
                  simp only [Act.put, List.setIfInBounds_toArray, List.set_cons_zero, List.set_cons_succ, i64_w, i32_w]
                  rfl
                refine pz (i := 6) (N := some 19) #[true, true, true, true, true, true, true, false, false, false, false, false, false, false, false, false, false, false, false, false, false, false, false, false, false, false, false, false, false, false, false, false, false, false] rfl rfl (any_of HT_.out (by kernel_rfl)) (fun _ _ _ h => h) ?_
                refine pz (i := 7) (N := some 20) #[true, true, true, true, true, true, true, true, false, false, false, false, false, false, false, false, false, false, false, false, false, false, false, false, false, false, false, false, false, false, false, false, false, false] rfl rfl (any_of HT_.out (by kernel_rfl)) (fun _ _ _ h => h) ?_
                refine pz (i := 9) (N := some 22) #[true, true, true, true, true, true, true, true, false, true, false, false, false, false, false, false, false, false, false, false, false, false, false, false, false, false, false, false, false, false, false, false, false, false] rfl rfl (any_of HT_.out (by kernel_rfl)) (fun _ _ _ h => h) ?_
                refine two_ (i := 8) (j := 10) (Ni := some 21) (Nj := some 23) #[true, true, true, true, true, true, true, true, true, true, false, false, false, false, false, false, false, false, false, false, false, false, false, false, false, false, false, false, false, false, false, false, false, false] #[true, true, true, true, true, true, true, true, false, true, true, false, false, false, false, false, false, false, false, false, false, false, false, false, false, false, false, false, false, false, false, false, false, false] rfl rfl rfl rfl (two_of HT_.out (by kernel_rfl)) (by decide) (by decide) (fun K hK => ?_) (fun K hK => ?_)
                · skip
                  refine goes_ Try.func22 (by kernel_rfl) rfl #[.slice Ao22 y217.length co22, .bool false, .int .i64 1000] (by rfl) rfl rfl zm ?_
                  with_reducible refine (tier_Slices.calls k _ _ y217 false 1000 t234 _ ?side1 ?side2 A5.out).mono ?_
                  (case side1 => repeat (first | exact (Kd.R_reads' HO219.out).2.2 | (with_reducible refine Kd.C_alloc ?_ _) | (with_reducible refine Kd.C_drewN ?_ _) | (with_reducible refine Kd.C_drew ?_)))
                  (case side2 => exact (Kd.R_reads' HO219.out).2.1)
                  rintro e w30 ⟨v235, rfl, ho0, hb⟩
                  refine ⟨_, rfl, ?_⟩
                  have HO236 := Aside0.mk (Kd.R_lower (Kd.R_new' (Kd.R_new' (Kd.R_new' ho0 (Kd.R_lt (kq HO222))) (Kd.R_lt (kq HO232))) (Kd.R_lt (kq HO229))) (below_size (hq HB)))
                  replace HO219 := kb HO219 hb
                  replace HO222 := Aside0.mk (Kd.R_elder' (kq HO222) (Kd.R_base ho0) hb)
                  replace HO232 := Aside0.mk (Kd.R_elder' (kq HO232) (Kd.R_base ho0) hb)
                  replace HO229 := Aside0.mk (Kd.R_elder' (kq HO229) (Kd.R_base ho0) hb)
                  replace BK226 := bb BK226 hb
                  replace HB := bs HB hb
                  (try clear hb)
                  (try clear hb2)
                  (try clear hk)
                  (try clear hi)
                  (try clear ho0)
                  refine hK.out _ _ ⟨(blk_cell BK226.out 0).trans rfl, (blk_cell BK226.out 1).trans rfl⟩ (fun hHeld => ?_)
                  clear hK K
                  refine norm_ (a' := ?_) ?_ ?_
                  rotate_left
                  · show Act.put _ (some 21) _ = _
                    simp only [Act.put, List.setIfInBounds_toArray, List.set_cons_zero, List.set_cons_succ, i64_w, i32_w]
                    rfl
                  refine one_ (i := 10) (N := some 23) #[true, true, true, true, true, true, true, true, true, true, true, false, false, false, false, false, false, false, false, false, false, false, false, false, false, false, false, false, false, false, false, false, false, false] rfl rfl (one_of HT_.out (by kernel_rfl)) (by decide) (fun K hK => ?_)
                  refine Kd.R_lit_step k43 _ 43 ?hg (N := 23) ?hd (xs := ([(⟨1000, 20000⟩ : S43)] : List (S43))) (inner := [.int .i64 1000, .int .i64 20000]) (ok := fun _ => True) (okp := fun _ => True) ?hr ?hp (fun _ hk => hk) trivial (Below.refl _ _) (Nat.le_refl _) (by simp) ?_; (case hd => rfl); (case hg => rfl); (case hr => first | (go_simp; done) | (go_simp; rfl)); (case hp => exact (Reps.c2 (show Kd.M k43 _ _ _ (⟨1000, 20000⟩ : S43) [.int .i64 1000, .int .i64 20000] from (k43_mkM _ _ _ (⟨1000, 20000⟩ : S43) )) (Reps.none _ _)))
                  intro v238 w31 ho32 hb hg_ hnew_
                  clear hg_ hnew_
                  (first | rw [← Ny237.out] at ho32 | (simp only [Int.reduceToNat] at ho32; rw [← Ny237.out] at ho32))
                  have HO239 := Aside0.mk (Kd.R_lower (Kd.R_new' (Kd.R_new' (Kd.R_new' (Kd.R_new' ho32 (Kd.R_lt (kq HO222))) (Kd.R_lt (kq HO232))) (Kd.R_lt (kq HO229))) (Kd.R_lt (kq HO236))) (below_size (hq HB)))
                  replace HO219 := kb HO219 hb
                  replace HO222 := Aside0.mk (Kd.R_elder' (kq HO222) (Kd.R_base ho32) hb)
                  replace HO232 := Aside0.mk (Kd.R_elder' (kq HO232) (Kd.R_base ho32) hb)
                  replace HO229 := Aside0.mk (Kd.R_elder' (kq HO229) (Kd.R_base ho32) hb)
                  replace HO236 := Aside0.mk (Kd.R_elder' (kq HO236) (Kd.R_base ho32) hb)
                  replace BK226 := bb BK226 hb
                  replace HB := bs HB hb
                  clear hb ho32
                  refine hK.out _ _ ⟨(blk_cell BK226.out 0).trans rfl, (blk_cell BK226.out 1).trans rfl⟩ (fun hHeld => ?_)
                  clear hK K
                  refine norm_ (a' := ?_) ?_ ?_
                  rotate_left
                  · show Act.put _ (some 23) _ = _
                    simp only [Act.put, List.setIfInBounds_toArray, List.set_cons_zero, List.set_cons_succ, i64_w, i32_w]
                    rfl
                  exact norm_ (by simp only [putAll, Act.put, List.setIfInBounds_toArray, List.set_cons_zero, List.set_cons_succ]) (hCont (.slice Ao28 t227.length co28, .slice Ao29 y230.length co29, v235, v238) _ ⟨hHeld, (kq HO219), (by (with_reducible repeat (first | apply Kd.R_alloc | apply Kd.R_drewN | apply Kd.R_drew)); exact Kd.R_mono HO222.out (fun _ hk => ⟨hk.1.1.2, ⟨hk.1.1.1.2, ⟨hk.1.2, hk.2⟩⟩⟩)), (by (with_reducible repeat (first | apply Kd.R_alloc | apply Kd.R_drewN | apply Kd.R_drew)); exact Kd.R_mono HO229.out (fun _ hk => ⟨hk.1.1.1.2, ⟨hk.1.1.2, ⟨hk.1.2, hk.2⟩⟩⟩)), (by (with_reducible repeat (first | apply Kd.R_alloc | apply Kd.R_drewN | apply Kd.R_drew)); exact Kd.R_mono HO232.out (fun _ hk => ⟨hk.1.1.1.2, ⟨hk.1.1.2, ⟨hk.1.2, hk.2⟩⟩⟩)), (by (with_reducible repeat (first | apply Kd.R_alloc | apply Kd.R_drewN | apply Kd.R_drew)); exact Kd.R_mono HO236.out (fun _ hk => ⟨hk.1.1.1.2, ⟨hk.1.2, ⟨hk.1.1.2, hk.2⟩⟩⟩)), (by (with_reducible repeat (first | apply Kd.R_alloc | apply Kd.R_drewN | apply Kd.R_drew)); exact Kd.R_mono HO239.out (fun _ hk => ⟨hk.1.1.1.2, ⟨hk.1.2, ⟨hk.1.1.2, hk.2⟩⟩⟩)), (bq BK226), (hq HB)⟩)
                · skip
                  refine Kd.R_lit_step k43 _ 43 ?hg (N := 23) ?hd (xs := ([(⟨1000, 20000⟩ : S43)] : List (S43))) (inner := [.int .i64 1000, .int .i64 20000]) (ok := fun _ => True) (okp := fun _ => True) ?hr ?hp (fun _ hk => hk) trivial (Below.refl _ _) (Nat.le_refl _) (by simp) ?_; (case hd => rfl); (case hg => rfl); (case hr => first | (go_simp; done) | (go_simp; rfl)); (case hp => exact (Reps.c2 (show Kd.M k43 _ _ _ (⟨1000, 20000⟩ : S43) [.int .i64 1000, .int .i64 20000] from (k43_mkM _ _ _ (⟨1000, 20000⟩ : S43) )) (Reps.none _ _)))
                  intro v238 w30 ho31 hb hg_ hnew_
                  clear hg_ hnew_
                  (first | rw [← Ny237.out] at ho31 | (simp only [Int.reduceToNat] at ho31; rw [← Ny237.out] at ho31))
                  have HO239 := Aside0.mk (Kd.R_lower (Kd.R_new' (Kd.R_new' (Kd.R_new' ho31 (Kd.R_lt (kq HO222))) (Kd.R_lt (kq HO232))) (Kd.R_lt (kq HO229))) (below_size (hq HB)))
                  replace HO219 := kb HO219 hb
                  replace HO222 := Aside0.mk (Kd.R_elder' (kq HO222) (Kd.R_base ho31) hb)
                  replace HO232 := Aside0.mk (Kd.R_elder' (kq HO232) (Kd.R_base ho31) hb)
                  replace HO229 := Aside0.mk (Kd.R_elder' (kq HO229) (Kd.R_base ho31) hb)
                  replace BK226 := bb BK226 hb
                  replace HB := bs HB hb
                  clear hb ho31
                  refine hK.out _ _ ⟨(blk_cell BK226.out 0).trans rfl, (blk_cell BK226.out 1).trans rfl⟩ (fun hHeld => ?_)
                  clear hK K
                  refine norm_ (a' := ?_) ?_ ?_
                  rotate_left
                  · show Act.put _ (some 23) _ = _
                    simp only [Act.put, List.setIfInBounds_toArray, List.set_cons_zero, List.set_cons_succ, i64_w, i32_w]
                    rfl
                  refine one_ (i := 8) (N := some 21) #[true, true, true, true, true, true, true, true, true, true, true, false, false, false, false, false, false, false, false, false, false, false, false, false, false, false, false, false, false, false, false, false, false, false] rfl rfl (one_of HT_.out (by kernel_rfl)) (by decide) (fun K hK => ?_)
                  refine goes_ Try.func22 (by kernel_rfl) rfl #[.slice Ao22 y217.length co22, .bool false, .int .i64 1000] (by rfl) rfl rfl zm ?_
                  with_reducible refine (tier_Slices.calls k _ _ y217 false 1000 t234 _ ?side1 ?side2 A5.out).mono ?_
                  (case side1 => repeat (first | exact (Kd.R_reads' HO219.out).2.2 | (with_reducible refine Kd.C_alloc ?_ _) | (with_reducible refine Kd.C_drewN ?_ _) | (with_reducible refine Kd.C_drew ?_)))
                  (case side2 => exact (Kd.R_reads' HO219.out).2.1)
                  rintro e w32 ⟨v235, rfl, ho0, hb⟩
                  refine ⟨_, rfl, ?_⟩
                  have HO236 := Aside0.mk (Kd.R_lower (Kd.R_new' (Kd.R_new' (Kd.R_new' (Kd.R_new' ho0 (Kd.R_lt (kq HO222))) (Kd.R_lt (kq HO232))) (Kd.R_lt (kq HO229))) (Kd.R_lt (kq HO239))) (below_size (hq HB)))
                  replace HO219 := kb HO219 hb
                  replace HO222 := Aside0.mk (Kd.R_elder' (kq HO222) (Kd.R_base ho0) hb)
                  replace HO232 := Aside0.mk (Kd.R_elder' (kq HO232) (Kd.R_base ho0) hb)
                  replace HO229 := Aside0.mk (Kd.R_elder' (kq HO229) (Kd.R_base ho0) hb)
                  replace HO239 := Aside0.mk (Kd.R_elder' (kq HO239) (Kd.R_base ho0) hb)
                  replace BK226 := bb BK226 hb
                  replace HB := bs HB hb
                  (try clear hb)
                  (try clear hb2)
                  (try clear hk)
                  (try clear hi)
                  (try clear ho0)
                  refine hK.out _ _ ⟨(blk_cell BK226.out 0).trans rfl, (blk_cell BK226.out 1).trans rfl⟩ (fun hHeld => ?_)
                  clear hK K
                  refine norm_ (a' := ?_) ?_ ?_
                  rotate_left
                  · show Act.put _ (some 21) _ = _
                    simp only [Act.put, List.setIfInBounds_toArray, List.set_cons_zero, List.set_cons_succ, i64_w, i32_w]
                    rfl
                  exact norm_ (by simp only [putAll, Act.put, List.setIfInBounds_toArray, List.set_cons_zero, List.set_cons_succ]) (hCont (.slice Ao28 t227.length co28, .slice Ao29 y230.length co29, v235, v238) _ ⟨hHeld, (kq HO219), (by (with_reducible repeat (first | apply Kd.R_alloc | apply Kd.R_drewN | apply Kd.R_drew)); exact Kd.R_mono HO222.out (fun _ hk => ⟨hk.1.1.2, ⟨hk.1.1.1.2, ⟨hk.2, hk.1.2⟩⟩⟩)), (by (with_reducible repeat (first | apply Kd.R_alloc | apply Kd.R_drewN | apply Kd.R_drew)); exact Kd.R_mono HO229.out (fun _ hk => ⟨hk.1.1.1.2, ⟨hk.1.1.2, ⟨hk.2, hk.1.2⟩⟩⟩)), (by (with_reducible repeat (first | apply Kd.R_alloc | apply Kd.R_drewN | apply Kd.R_drew)); exact Kd.R_mono HO232.out (fun _ hk => ⟨hk.1.1.1.2, ⟨hk.1.1.2, ⟨hk.2, hk.1.2⟩⟩⟩)), (by (with_reducible repeat (first | apply Kd.R_alloc | apply Kd.R_drewN | apply Kd.R_drew)); exact Kd.R_mono HO236.out (fun _ hk => ⟨hk.1.1.1.2, ⟨hk.1.2, ⟨hk.1.1.2, hk.2⟩⟩⟩)), (by (with_reducible repeat (first | apply Kd.R_alloc | apply Kd.R_drewN | apply Kd.R_drew)); exact Kd.R_mono HO239.out (fun _ hk => ⟨hk.1.1.1.2, ⟨hk.1.2, ⟨hk.1.1.2, hk.2⟩⟩⟩)), (bq BK226), (hq HB)⟩)
            rintro ⟨v228, v231, v235, v238⟩ w33 ⟨hS_, h0_, h1_, h2_, h3_, h4_, h5_, h6_, h7_⟩
            have HO229 : Aside0 (Kd.R k43 43 w33 w.heap.size (fun k_ => some k_ ≠ (.slice Ao18 y220.length co18 : Value).ownBlock ∧ some k_ ≠ (v231 : Value).ownBlock ∧ some k_ ≠ (v235 : Value).ownBlock ∧ some k_ ≠ (v238 : Value).ownBlock) v228 t227) := ⟨h2_⟩
            have HO232 : Aside0 (Kd.R k43 43 w33 w.heap.size (fun k_ => some k_ ≠ (.slice Ao18 y220.length co18 : Value).ownBlock ∧ some k_ ≠ (v228 : Value).ownBlock ∧ some k_ ≠ (v235 : Value).ownBlock ∧ some k_ ≠ (v238 : Value).ownBlock) v231 y230) := ⟨h3_⟩
            have HO236 : Aside0 (Kd.R k43 43 w33 w.heap.size (fun k_ => some k_ ≠ (.slice Ao18 y220.length co18 : Value).ownBlock ∧ some k_ ≠ (v228 : Value).ownBlock ∧ some k_ ≠ (v231 : Value).ownBlock ∧ some k_ ≠ (v238 : Value).ownBlock) v235 t234) := ⟨h4_⟩
            have HO239 : Aside0 (Kd.R k43 43 w33 w.heap.size (fun k_ => some k_ ≠ (.slice Ao18 y220.length co18 : Value).ownBlock ∧ some k_ ≠ (v228 : Value).ownBlock ∧ some k_ ≠ (v231 : Value).ownBlock ∧ some k_ ≠ (v235 : Value).ownBlock) v238 y237) := ⟨h5_⟩
            replace HO219 : Aside0 (Kd.R k50 50 w33 w.heap.size (fun _ => True) (.slice Ao22 y217.length co22) y217) := ⟨h0_⟩
            replace HO222 : Aside0 (Kd.R k43 43 w33 w.heap.size (fun k_ => some k_ ≠ (v228 : Value).ownBlock ∧ some k_ ≠ (v231 : Value).ownBlock ∧ some k_ ≠ (v235 : Value).ownBlock ∧ some k_ ≠ (v238 : Value).ownBlock) (.slice Ao18 y220.length co18) y220) := ⟨h1_⟩
            replace BK226 : Aside0 (w33.heap[gb226]? = some (.cells #[.int .i64 t223, .int .u64 t224] 35 (0, 0))) := ⟨h6_⟩
            replace HB : Aside0 (Below w.heap.size w w33) := ⟨h7_⟩
            clear h0_ h1_ h2_ h3_ h4_ h5_ h6_ h7_
            have hHeld : w33.cell? ⟨gb226, 0, none⟩ = some (.int .i64 t223) ∧ w33.cell? ⟨gb226, 1, none⟩ = some (.int .u64 t224) := hS_
            obtain ⟨Ao34, co34, eo34⟩ := Kd.R_slice HO236.out
            (first | subst eo34 | (injection eo34 with f1_ f2_ f3_; have f4_ := f1_.symm; have f5_ := f3_.symm; clear f1_ f2_ f3_; subst f4_; subst f5_))
            obtain ⟨Ao35, co35, eo35⟩ := Kd.R_slice HO239.out
            (first | subst eo35 | (injection eo35 with f1_ f2_ f3_; have f4_ := f1_.symm; have f5_ := f3_.symm; clear f1_ f2_ f3_; subst f4_; subst f5_))
            refine norm_ (a' := ?_) ?_ ?_
            rotate_left
            · simp only [putAll, Act.put, List.setIfInBounds_toArray, List.set_cons_zero, List.set_cons_succ]
              rfl
            refine one_ (i := 11) (N := some 24) #[true, true, true, true, true, true, true, true, true, true, true, true, false, false, false, false, false, false, false, false, false, false, false, false, false, false, false, false, false, false, false, false, false, false] rfl rfl (one_of HT_.out (by kernel_rfl)) (by decide) (fun K hK => ?_)
            refine goes_ Try.func21 (by kernel_rfl) rfl #[.slice Ao34 t234.length co34, .slice Ao35 y237.length co35] (by rfl) rfl rfl zm ?_
            with_reducible refine (corebankref14_Same.calls k _ _ t234 _ _ y237 true _ ?side1 ?side2 ?side3 ?side4 A6.out).mono ?_
            (case side1 => repeat (first | exact (Kd.R_reads' HO236.out).2.2 | (with_reducible refine Kd.C_alloc ?_ _) | (with_reducible refine Kd.C_drewN ?_ _) | (with_reducible refine Kd.C_drew ?_)))
            (case side2 => exact (Kd.R_reads' HO236.out).2.1)
            (case side3 => repeat (first | exact (Kd.R_reads' HO239.out).2.2 | (with_reducible refine Kd.C_alloc ?_ _) | (with_reducible refine Kd.C_drewN ?_ _) | (with_reducible refine Kd.C_drew ?_)))
            (case side4 => exact (Kd.R_reads' HO239.out).2.1)
            rintro e w' ⟨rfl, ⟨nd, rfl⟩⟩
            refine ⟨_, rfl, ?_⟩
            refine hK.out _ _ ⟨(blk_cell BK226.out 0).trans rfl, (blk_cell BK226.out 1).trans rfl⟩ (fun hHeld => ?_)
            clear hK K
            refine norm_ (a' := ?_) ?_ ?_
            rotate_left
            · show Act.put _ (some 24) _ = _
              simp only [Act.put, List.setIfInBounds_toArray, List.set_cons_zero, List.set_cons_succ, i64_w, i32_w]
              rfl
            refine pz (i := 12) (N := some 25) #[true, true, true, true, true, true, true, true, true, true, true, true, true, false, false, false, false, false, false, false, false, false, false, false, false, false, false, false, false, false, false, false, false, false] rfl rfl (any_of HT_.out (by kernel_rfl)) (fun _ _ _ h => h) ?_
            refine pz (i := 13) (N := some 26) #[true, true, true, true, true, true, true, true, true, true, true, true, true, true, false, false, false, false, false, false, false, false, false, false, false, false, false, false, false, false, false, false, false, false] rfl rfl (any_of HT_.out (by kernel_rfl)) (fun _ _ _ h => h) ?_
            refine pz (i := 14) (N := some 27) #[true, true, true, true, true, true, true, true, true, true, true, true, true, true, true, false, false, false, false, false, false, false, false, false, false, false, false, false, false, false, false, false, false, false] rfl rfl (any_of HT_.out (by kernel_rfl)) (fun _ _ _ h => h) ?_
            refine one_ (i := 15) (N := some 28) #[true, true, true, true, true, true, true, true, true, true, true, true, true, true, true, true, false, false, false, false, false, false, false, false, false, false, false, false, false, false, false, false, false, false] rfl rfl (one_of HT_.out (by kernel_rfl)) (by decide) (fun K hK => ?_)
            refine goes_ Try.func19 (by kernel_rfl) rfl #[.slice Ao22 y217.length co22, .int .i64 999] (by rfl) rfl rfl zm ?_
            with_reducible refine (tier_Rate.calls k _ _ y217 999 t241 _ ?side1 ?side2 A8.out).mono ?_
            (case side1 => repeat (first | exact (Kd.R_reads' HO219.out).2.2 | (with_reducible refine Kd.C_alloc ?_ _) | (with_reducible refine Kd.C_drewN ?_ _) | (with_reducible refine Kd.C_drew ?_)))
            (case side2 => exact (Kd.R_reads' HO219.out).2.1)
            rintro e w36 ⟨rfl, hb⟩
            refine ⟨_, rfl, ?_⟩
            replace HO219 := kb HO219 hb
            replace HO222 := kb HO222 hb
            replace HO229 := kb HO229 hb
            replace HO232 := kb HO232 hb
            replace HO236 := kb HO236 hb
            replace HO239 := kb HO239 hb
            replace BK226 := bb BK226 hb
            replace HB := bs HB hb
            (try clear hb)
            (try clear hb2)
            (try clear hk)
            (try clear hi)
            refine hK.out _ _ ⟨(blk_cell BK226.out 0).trans rfl, (blk_cell BK226.out 1).trans rfl⟩ (fun hHeld => ?_)
            clear hK K
            refine norm_ (a' := ?_) ?_ ?_
            rotate_left
            · show Act.put _ (some 28) _ = _
              simp only [Act.put, List.setIfInBounds_toArray, List.set_cons_zero, List.set_cons_succ, i64_w, i32_w]
              rfl
            refine pz (i := 16) (N := some 29) #[true, true, true, true, true, true, true, true, true, true, true, true, true, true, true, true, true, false, false, false, false, false, false, false, false, false, false, false, false, false, false, false, false, false] rfl rfl (any_of HT_.out (by kernel_rfl)) (fun _ _ _ h => h) ?_
            refine pz (i := 17) (N := some 30) #[true, true, true, true, true, true, true, true, true, true, true, true, true, true, true, true, true, true, false, false, false, false, false, false, false, false, false, false, false, false, false, false, false, false] rfl rfl (any_of HT_.out (by kernel_rfl)) (fun _ _ _ h => h) ?_
            refine pz (i := 18) (N := some 31) #[true, true, true, true, true, true, true, true, true, true, true, true, true, true, true, true, true, true, true, false, false, false, false, false, false, false, false, false, false, false, false, false, false, false] rfl rfl (any_of HT_.out (by kernel_rfl)) (fun _ _ _ h => h) ?_
            refine tz2 (i := 19) (N := some 32) #[true, true, true, true, true, true, true, true, true, true, true, true, true, true, true, true, true, true, true, true, false, false, false, false, false, false, false, false, false, false, false, false, false, false] rfl rfl (take_ofW HT_.out HW_.out (by kernel_rfl)) (fun _ _ _ h => h) hHeld ?_
            refine one_ (i := 20) (N := some 33) #[true, true, true, true, true, true, true, true, true, true, true, true, true, true, true, true, true, true, true, true, true, false, false, false, false, false, false, false, false, false, false, false, false, false] rfl rfl (one_of HT_.out (by kernel_rfl)) (by decide) (fun K hK => ?_)
            refine goes_ Try.func41 (by kernel_rfl) rfl #[.int .i64 6588000000000] (by rfl) rfl rfl zm ?_
            with_reducible refine (corebankref01_Of.calls 6588000000000 t242 t243 _ A10.out).mono ?_
            rintro e w37 ⟨rfl, hb⟩
            refine ⟨_, rfl, ?_⟩
            replace HO219 := kb HO219 hb
            replace HO222 := kb HO222 hb
            replace HO229 := kb HO229 hb
            replace HO232 := kb HO232 hb
            replace HO236 := kb HO236 hb
            replace HO239 := kb HO239 hb
            replace BK226 := bb BK226 hb
            replace HB := bs HB hb
            (try clear hb)
            (try clear hb2)
            (try clear hk)
            (try clear hi)
            refine hK.out _ _ ⟨(blk_cell BK226.out 0).trans rfl, (blk_cell BK226.out 1).trans rfl⟩ (fun hHeld => ?_)
            clear hK K
            refine norm_ (a' := ?_) ?_ ?_
            rotate_left
            · show Act.put _ (some 33) _ = _
              simp only [Act.put, List.setIfInBounds_toArray, List.set_cons_zero, List.set_cons_succ, i64_w, i32_w]
              rfl
            refine pz (i := 21) (N := some 34) #[true, true, true, true, true, true, true, true, true, true, true, true, true, true, true, true, true, true, true, true, true, true, false, false, false, false, false, false, false, false, false, false, false, false] rfl rfl (any_of HT_.out (by kernel_rfl)) (fun _ _ _ h => h) ?_
            refine pz (i := 22) (N := some 35) #[true, true, true, true, true, true, true, true, true, true, true, true, true, true, true, true, true, true, true, true, true, true, true, false, false, false, false, false, false, false, false, false, false, false] rfl rfl (any_of HT_.out (by kernel_rfl)) (fun _ _ _ h => h) ?_
            refine pz (i := 23) (N := some 36) #[true, true, true, true, true, true, true, true, true, true, true, true, true, true, true, true, true, true, true, true, true, true, true, true, false, false, false, false, false, false, false, false, false, false] rfl rfl (any_of HT_.out (by kernel_rfl)) (fun _ _ _ h => h) ?_
            refine pz (i := 24) (N := some 37) #[true, true, true, true, true, true, true, true, true, true, true, true, true, true, true, true, true, true, true, true, true, true, true, true, true, false, false, false, false, false, false, false, false, false] rfl rfl (any_of HT_.out (by kernel_rfl)) (fun _ _ _ h => h) ?_
            refine pz (i := 25) (N := some 38) #[true, true, true, true, true, true, true, true, true, true, true, true, true, true, true, true, true, true, true, true, true, true, true, true, true, true, false, false, false, false, false, false, false, false] rfl rfl (any_of HT_.out (by kernel_rfl)) (fun _ _ _ h => h) ?_
            refine pz (i := 26) (N := some 39) #[true, true, true, true, true, true, true, true, true, true, true, true, true, true, true, true, true, true, true, true, true, true, true, true, true, true, true, false, false, false, false, false, false, false] rfl rfl (any_of HT_.out (by kernel_rfl)) (fun _ _ _ h => h) ?_
            refine pz (i := 27) (N := some 40) #[true, true, true, true, true, true, true, true, true, true, true, true, true, true, true, true, true, true, true, true, true, true, true, true, true, true, true, true, false, false, false, false, false, false] rfl rfl (any_of HT_.out (by kernel_rfl)) (fun _ _ _ h => h) ?_
            refine pz (i := 28) (N := some 41) #[true, true, true, true, true, true, true, true, true, true, true, true, true, true, true, true, true, true, true, true, true, true, true, true, true, true, true, true, true, false, false, false, false, false] rfl rfl (any_of HT_.out (by kernel_rfl)) (fun _ _ _ h => h) ?_
            refine one_ (i := 29) (N := some 42) #[true, true, true, true, true, true, true, true, true, true, true, true, true, true, true, true, true, true, true, true, true, true, true, true, true, true, true, true, true, true, false, false, false, false] rfl rfl (one_of HT_.out (by kernel_rfl)) (by decide) (fun K hK => ?_)
            refine Kd.R_lit_step k50 _ 50 ?hg (N := 42) ?hd (xs := ([(⟨1, 1⟩ : S50)] : List (S50))) (inner := [.int .i64 1, .int .i64 1]) (ok := fun _ => True) (okp := fun _ => True) ?hr ?hp (fun _ hk => hk) trivial (Below.refl _ _) (Nat.le_refl _) (by simp) ?_; (case hd => rfl); (case hg => rfl); (case hr => first | (go_simp; done) | (go_simp; rfl)); (case hp => exact (Reps.c2 (show Kd.M k50 _ _ _ (⟨1, 1⟩ : S50) [.int .i64 1, .int .i64 1] from (k50_mkM _ _ _ (⟨1, 1⟩ : S50) )) (Reps.none _ _)))
            intro v245 w38 ho39 hb hg_ hnew_
            clear hg_ hnew_
            (first | rw [← Ny244.out] at ho39 | (simp only [Int.reduceToNat] at ho39; rw [← Ny244.out] at ho39))
            have HO246 := Aside0.mk (Kd.R_lower (Kd.R_new' ho39 (Kd.R_lt (kq HO219))) (below_size (hq HB)))
            replace HO219 := Aside0.mk (Kd.R_elder' (kq HO219) (Kd.R_base ho39) hb)
            replace HO222 := kb HO222 hb
            replace HO229 := kb HO229 hb
            replace HO232 := kb HO232 hb
            replace HO236 := kb HO236 hb
            replace HO239 := kb HO239 hb
            replace BK226 := bb BK226 hb
            replace HB := bs HB hb
            clear hb ho39
            obtain ⟨Ao40, co40, eo40⟩ := Kd.R_slice HO246.out
            (first | subst eo40 | (injection eo40 with f1_ f2_ f3_; have f4_ := f1_.symm; have f5_ := f3_.symm; clear f1_ f2_ f3_; subst f4_; subst f5_))
            refine hK.out _ _ ⟨(blk_cell BK226.out 0).trans rfl, (blk_cell BK226.out 1).trans rfl⟩ (fun hHeld => ?_)
            clear hK K
            refine norm_ (a' := ?_) ?_ ?_
            rotate_left
            · show Act.put _ (some 42) _ = _
              simp only [Act.put, List.setIfInBounds_toArray, List.set_cons_zero, List.set_cons_succ, i64_w, i32_w]
              rfl
            refine one_ (i := 30) (N := some 43) #[true, true, true, true, true, true, true, true, true, true, true, true, true, true, true, true, true, true, true, true, true, true, true, true, true, true, true, true, true, true, true, false, false, false] rfl rfl (one_of HT_.out (by kernel_rfl)) (by decide) (fun K hK => ?_)
            refine goes_ Try.func16 (by kernel_rfl) rfl #[.slice Ao40 y244.length co40] (by rfl) rfl rfl zm ?_
            with_reducible refine (tier_Check.calls _ _ y244 t247 _ ?side1 ?side2 A13.out).mono ?_
            (case side1 => repeat (first | exact (Kd.R_reads' HO246.out).2.2 | (with_reducible refine Kd.C_alloc ?_ _) | (with_reducible refine Kd.C_drewN ?_ _) | (with_reducible refine Kd.C_drew ?_)))
            (case side2 => exact (Kd.R_reads' HO246.out).2.1)
            rintro e w41 ⟨rfl, hb⟩
            refine ⟨_, rfl, ?_⟩
            replace HO219 := kb HO219 hb
            replace HO222 := kb HO222 hb
            replace HO229 := kb HO229 hb
            replace HO232 := kb HO232 hb
            replace HO236 := kb HO236 hb
            replace HO239 := kb HO239 hb
            replace HO246 := kb HO246 hb
            replace BK226 := bb BK226 hb
            replace HB := bs HB hb
            (try clear hb)
            (try clear hb2)
            (try clear hk)
            (try clear hi)
            refine hK.out _ _ ⟨(blk_cell BK226.out 0).trans rfl, (blk_cell BK226.out 1).trans rfl⟩ (fun hHeld => ?_)
            clear hK K
            refine norm_ (a' := ?_) ?_ ?_
            rotate_left
            · show Act.put _ (some 43) _ = _
              simp only [Act.put, List.setIfInBounds_toArray, List.set_cons_zero, List.set_cons_succ, i64_w, i32_w]
              rfl
            refine pz (i := 31) (N := some 44) #[true, true, true, true, true, true, true, true, true, true, true, true, true, true, true, true, true, true, true, true, true, true, true, true, true, true, true, true, true, true, true, true, false, false] rfl rfl (any_of HT_.out (by kernel_rfl)) (fun _ _ _ h => h) ?_
            refine pz (i := 32) (N := some 45) #[true, true, true, true, true, true, true, true, true, true, true, true, true, true, true, true, true, true, true, true, true, true, true, true, true, true, true, true, true, true, true, true, true, false] rfl rfl (any_of HT_.out (by kernel_rfl)) (fun _ _ _ h => h) ?_
            refine pz (i := 33) (N := some 0) #[true, true, true, true, true, true, true, true, true, true, true, true, true, true, true, true, true, true, true, true, true, true, true, true, true, true, true, true, true, true, true, true, true, true] rfl rfl (any_of HT_.out (by kernel_rfl)) (fun _ _ _ h => h) ?_
            refine done_ (done_of HT_.out (by kernel_rfl)) ?_
            try go_wp2
            go_ret
            exact ⟨by first | rfl | (simp [errW_none, errW_some] <;> rfl) | (simp [*, errW_none, errW_some] <;> rfl), hq HB⟩
          · rw [if_neg c12] at H
            have c12b0 : (t225 == 0) = false := beq_eq_false_iff_ne.mpr c12
            have c12b1 : (t225 != 0) = true := bne_iff_ne.mpr c12
            exact absurd ((Option.some.inj H).trans HT.out) (by decide)
        · rw [if_neg c11] at H
          have c11b0 : (t223 == t242 && (t224 == t243)) = false := by simpa using c11
          (try (have c11b1 : decide (t223 = t242 && (t224 == t243)) = false := by simpa using c11))
          (try (have c11b2 : (t223 == t242 && (t224 == t243)) = false := by simpa using c11))
          (try (have c11b3 : ¬ (t223 = t242 && (t224 == t243)) := by simpa using c11))
          clear c11
          exact absurd ((Option.some.inj H).trans HT.out) (by decide)
      · rw [if_neg c9] at H
        have c9b0 : (t241 == 10000) = false := beq_eq_false_iff_ne.mpr c9
        have c9b1 : (t241 != 10000) = true := bne_iff_ne.mpr c9
        exact absurd ((Option.some.inj H).trans HT.out) (by decide)
    · replace c7 := Bool.eq_false_iff.mpr c7
      subst c7
      have H1 : (some false) = some r := by rw [if_neg (show ¬ (false = true) by decide)] at H; exact H
      clear H
      have H := H1
      clear H1
      exact absurd ((Option.some.inj H).trans HT.out) (by decide)
  · replace c4 := Bool.eq_false_iff.mpr c4
    subst c4
    have H1 : (some false) = some r := by rw [if_neg (show ¬ (false = true) by decide)] at H; exact H
    clear H
    have H := H1
    clear H1
    exact absurd ((Option.some.inj H).trans HT.out) (by decide)

end Go.Proofs.Ytlmabdiodopidaa.P
end
section
namespace Go.Proofs.Ytlmabdiodopidaa.G
open Go.RowKit Go.Proofs.Ytlmabdiodopidaa.P
def corebanklaw14_live.f : Option Bool := some true
theorem live14_true : corebanklaw14_liveT.f 100 = some true := by decide +kernel
theorem corebanklaw14_live.calls (r : Bool) (w : World) (h : corebanklaw14_live.f = some r) : Calls Try.prog 18 #[] w fun e w' => e = .returned (.bool r) ∧ Below w.heap.size w w' := by
  have e : true = r := Option.some.inj h
  subst e
  exact corebanklaw14_liveT.calls 100 true w rfl live14_true
end Go.Proofs.Ytlmabdiodopidaa.G
end
section
namespace Go.Proofs.Ytlmabdiodopidaa.P
open Go.Proofs.Ytlmabdiodopidaa.G
attribute [local go_sem high] un_not64 un_noti run_add64
open Go.RowKit Go.Proofs.YtlmabdiodopidaaW.PrintWords Go.Proofs.YtlmabdiodopidaaW.PrintLast Go.Proofs.YtlmabdiodopidaaW.PrintMore
attribute [local go_sem] max2_int min2_int max_two min_two max_three min_three max_four min_four   -- for this text's walks alone
set_option linter.unusedVariables false
set_option linter.unusedSimpArgs false

/-! ### corebanklaw14_TierChecks: function 3 -/
def corebanklaw14_TierChecks.f (k : Nat) (l0 : List (S50)) : Option (Bool) := if (l0.length : Int) > 100 then ((corebanklaw14_live.f).bind fun t248 => (some t248)) else ((tier_Check.f l0).bind fun t249 => ((corebankref14_Check.f k l0).bind fun t250 => (if t249 = t250 then ((corebanklaw14_live.f).bind fun t251 => (some t251)) else (some false))))
theorem corebanklaw14_TierChecks.mono : ∀ a0 k, LeO (corebanklaw14_TierChecks.f k a0) (corebanklaw14_TierChecks.f (k + 1) a0) := by
  intro a0 k
  unfold corebanklaw14_TierChecks.f
  repeat' first
      | (with_reducible exact corebankref14_Check.mono _ _)
      | (with_reducible exact LeO.refl _)
      | (with_reducible exact LeO.none _)
      | (with_reducible refine LeO.ite ?_ ?_)
      | (with_reducible refine LeO.bind ?_ (fun _ => ?_))
      | exact corebankref14_Check.mono _ _
      | exact LeO.none _
      | refine LeO.ite ?_ ?_
      | refine LeO.bind ?_ (fun _ => ?_)
set_option maxHeartbeats 8000000 in
set_option maxRecDepth 100000 in
theorem corebanklaw14_TierChecks.calls (k : Nat) (A0 : Option Addr) (c0 : Nat) (l0 : List (S50)) (r : Bool) (w : World) (hr0 : Kd.C k50 w A0 l0.length l0) (hc0 : l0.length ≤ c0) (hT : r = true) (h : corebanklaw14_TierChecks.f k l0 = some r) :
    Calls Try.prog 3 #[.slice A0 l0.length c0] w fun e w' => e = .returned (.bool r) ∧ Below w.heap.size w w' := by
  have HR0 := Aside0.mk hr0
  have HC0 := Aside0.mk hc0
  clear hr0 hc0
  have HB := Aside0.mk (Below.refl w.heap.size w)
  have HT := Aside0.mk hT
  clear hT
  have H : (if (l0.length : Int) > 100 then ((corebanklaw14_live.f).bind fun t248 => (some t248)) else ((tier_Check.f l0).bind fun t249 => ((corebankref14_Check.f k l0).bind fun t250 => (if t249 = t250 then ((corebanklaw14_live.f).bind fun t251 => (some t251)) else (some false))))) = some r := h
  clear h
  by_cases c2 : (l0.length : Int) > 100
  · rw [if_pos c2] at H
    have c2b0 : decide (100 < (l0.length : Int)) = true := decide_eq_true c2
    have c2b1 : decide (100 < l0.length) = true := decide_eq_true (by omega)
    clear c2
    replace H := Option.bind_eq_some_iff.mp H
    obtain ⟨t248, A30, H⟩ := H
    replace H : (some t248) = some r := H
    have A3 := Aside0.mk A30
    clear A30
    obtain rfl := Option.some.inj H
    go_enter Try.func3, Try.ntmps3
    go_wp2_with (first | (go_at_call 18; (with_reducible refine (corebanklaw14_live.calls  t248 _ A3.out).mono ?_); rintro e w4 ⟨rfl, hb⟩; replace HB := bs HB hb; (try clear hb); (try clear hb2); (try clear hk); (try clear hi)))
    go_ret
    exact ⟨by first | rfl | (simp [errW_none, errW_some] <;> rfl) | (simp [*, errW_none, errW_some] <;> rfl), hq HB⟩
  · rw [if_neg c2] at H
    have c2b0 : decide (100 < (l0.length : Int)) = false := decide_eq_false c2
    have c2b1 : decide (100 < l0.length) = false := decide_eq_false (by omega)
    clear c2
    replace H := Option.bind_eq_some_iff.mp H
    obtain ⟨t249, A50, H⟩ := H
    replace H : ((corebankref14_Check.f k l0).bind fun t250 => (if t249 = t250 then ((corebanklaw14_live.f).bind fun t251 => (some t251)) else (some false))) = some r := H
    have A5 := Aside0.mk A50
    clear A50
    replace H := Option.bind_eq_some_iff.mp H
    obtain ⟨t250, A60, H⟩ := H
    replace H : (if t249 = t250 then ((corebanklaw14_live.f).bind fun t251 => (some t251)) else (some false)) = some r := H
    have A6 := Aside0.mk A60
    clear A60
    by_cases c7 : t249 = t250
    · rw [if_pos c7] at H
      have c7b0 : (t249 == t250) = true := beq_iff_eq.mpr c7
      have c7b1 : (t249 != t250) = false := bne_eq_false_iff_eq.mpr c7
      clear c7
      replace H := Option.bind_eq_some_iff.mp H
      obtain ⟨t251, A80, H⟩ := H
      replace H : (some t251) = some r := H
      have A8 := Aside0.mk A80
      clear A80
      obtain rfl := Option.some.inj H
      go_enter Try.func3, Try.ntmps3
      go_wp2_with (first | (go_at_call 16; (with_reducible refine (tier_Check.calls _ _ l0 t249 _ ?side1 ?side2 A5.out).mono ?_); (case side1 => repeat (first | exact HR0.out | (with_reducible refine Kd.C_alloc ?_ _) | (with_reducible refine Kd.C_drewN ?_ _) | (with_reducible refine Kd.C_drew ?_))); (case side2 => exact HC0.out); rintro e w9 ⟨rfl, hb⟩; replace HB := bs HB hb; (try clear hb); (try clear hb2); (try clear hk); (try clear hi)) | (go_at_call 17; (with_reducible refine (corebankref14_Check.calls k _ _ l0 t250 _ ?side1 ?side2 A6.out).mono ?_); (case side1 => repeat (first | exact (Kd.C_below HR0.out HB.out) | (with_reducible refine Kd.C_alloc ?_ _) | (with_reducible refine Kd.C_drewN ?_ _) | (with_reducible refine Kd.C_drew ?_))); (case side2 => exact HC0.out); rintro e w' ⟨rfl, ⟨nd, rfl⟩⟩) | (go_at_call 18; (with_reducible refine (corebanklaw14_live.calls  t251 _ A8.out).mono ?_); rintro e w10 ⟨rfl, hb⟩; replace HB := bs HB hb; (try clear hb); (try clear hb2); (try clear hk); (try clear hi)))
      go_ret
      exact ⟨by first | rfl | (simp [errW_none, errW_some] <;> rfl) | (simp [*, errW_none, errW_some] <;> rfl), hq HB⟩
    · rw [if_neg c7] at H
      have c7b0 : (t249 == t250) = false := beq_eq_false_iff_ne.mpr c7
      have c7b1 : (t249 != t250) = true := bne_iff_ne.mpr c7
      exact absurd ((Option.some.inj H).trans HT.out) (by decide)

/-! ### corebankref14_Size: function 26 -/
def corebankref14_Size.f (a0 : Int) : Option (Int) := if a0 = (-9223372036854775808) then (some 9223372036854775807) else (if a0 < 0 then (some (wrap64 (-a0))) else (some a0))
set_option maxHeartbeats 8000000 in
set_option maxRecDepth 100000 in
theorem corebankref14_Size.calls (a0 : Int) (r : Int) (w : World) (h : corebankref14_Size.f a0 = some r) :
    Calls Try.prog 26 #[.int .i64 a0] w fun e w' => e = .returned (.int .i64 r) ∧ Drawn0 w w' := by
  have H : (if a0 = (-9223372036854775808) then (some 9223372036854775807) else (if a0 < 0 then (some (wrap64 (-a0))) else (some a0))) = some r := h
  clear h
  by_cases c2 : a0 = (-9223372036854775808)
  · rw [if_pos c2] at H
    have c2b0 : (a0 == (-9223372036854775808)) = true := beq_iff_eq.mpr c2
    have c2b1 : (a0 != (-9223372036854775808)) = false := bne_eq_false_iff_eq.mpr c2
    clear c2
    obtain rfl := Option.some.inj H
    go_enter Try.func26, Try.ntmps26
    go_wp2
    go_ret
    exact ⟨by first | rfl | (simp; done) | (simp [*]; done), by repeat (first | exact Drawn0.refl _ | apply Drawn0.step)⟩
  · rw [if_neg c2] at H
    have c2b0 : (a0 == (-9223372036854775808)) = false := beq_eq_false_iff_ne.mpr c2
    have c2b1 : (a0 != (-9223372036854775808)) = true := bne_iff_ne.mpr c2
    by_cases c3 : a0 < 0
    · rw [if_pos c3] at H
      have c3b0 : decide (a0 < 0) = true := decide_eq_true c3
      clear c3
      obtain rfl := Option.some.inj H
      go_enter Try.func26, Try.ntmps26
      go_wp2
      go_ret
      exact ⟨by first | rfl | (simp; done) | (simp [*]; done), by repeat (first | exact Drawn0.refl _ | apply Drawn0.step)⟩
    · rw [if_neg c3] at H
      have c3b0 : decide (a0 < 0) = false := decide_eq_false c3
      clear c3
      obtain rfl := Option.some.inj H
      go_enter Try.func26, Try.ntmps26
      go_wp2
      go_ret
      exact ⟨by first | rfl | (simp; done) | (simp [*]; done), by repeat (first | exact Drawn0.refl _ | apply Drawn0.step)⟩

/-! ### corebankref14_Rate: function 20 -/
def corebankref14_Rate.l0 : Nat → List (S50) → Int → Int → Int → Option (Int)
  | 0, _, _, _, _ => none
  | k + 1, x0, x1, x5, x6 => if x6 < (x0.length : Int) then (if 0 ≤ x6 then ((corebankref14_Size.f x1).bind fun t254 => (if ((rd_T50 x0 x6).f0) ≤ t254 then (corebankref14_Rate.l0 k x0 x1 ((rd_T50 x0 x6).f1) (wrap64 (x6 + 1))) else (corebankref14_Rate.l0 k x0 x1 x5 (wrap64 (x6 + 1))))) else (none)) else (some x5)
def corebankref14_Rate.f (k : Nat) (l0 : List (S50)) (a1 : Int) : Option (Int) := (corebankref14_Check.f k l0).bind fun t252 => (if t252 = 0 then (corebankref14_Rate.l0 k l0 a1 0 0) else (some 0))
theorem corebankref14_Rate.mono_l : ∀ k, (∀ y0 y1 y2 y3, LeO (corebankref14_Rate.l0 k y0 y1 y2 y3) (corebankref14_Rate.l0 (k + 1) y0 y1 y2 y3))
  | 0 => fun _ _ _ _ r h => by simp [corebankref14_Rate.l0] at h
  | k + 1 => by
    have ih0 := corebankref14_Rate.mono_l k
    · intro y0 y1 y2 y3
      unfold corebankref14_Rate.l0
      repeat' first
      | (with_reducible exact ih0 _ _ _ _)
      | (with_reducible exact corebankref14_Check.mono _ _)
      | (with_reducible exact LeO.refl _)
      | (with_reducible exact LeO.none _)
      | (with_reducible refine LeO.ite ?_ ?_)
      | (with_reducible refine LeO.bind ?_ (fun _ => ?_))
      | exact ih0 _ _ _ _
      | exact corebankref14_Check.mono _ _
      | exact LeO.none _
      | refine LeO.ite ?_ ?_
      | refine LeO.bind ?_ (fun _ => ?_)
theorem corebankref14_Rate.mono : ∀ a0 a1 k, LeO (corebankref14_Rate.f k a0 a1) (corebankref14_Rate.f (k + 1) a0 a1) := by
  intro a0 a1 k
  have ih0 := corebankref14_Rate.mono_l k
  unfold corebankref14_Rate.f
  repeat' first
      | (with_reducible exact ih0 _ _ _ _)
      | (with_reducible exact corebankref14_Check.mono _ _)
      | (with_reducible exact LeO.refl _)
      | (with_reducible exact LeO.none _)
      | (with_reducible refine LeO.ite ?_ ?_)
      | (with_reducible refine LeO.bind ?_ (fun _ => ?_))
      | exact ih0 _ _ _ _
      | exact corebankref14_Check.mono _ _
      | exact LeO.none _
      | refine LeO.ite ?_ ?_
      | refine LeO.bind ?_ (fun _ => ?_)
set_option maxHeartbeats 8000000 in
set_option maxRecDepth 100000 in
theorem corebankref14_Rate.calls (k : Nat) (A0 : Option Addr) (c0 : Nat) (l0 : List (S50)) (a1 : Int) (r : Int) (w : World) (hr0 : Kd.C k50 w A0 l0.length l0) (hc0 : l0.length ≤ c0) (h : corebankref14_Rate.f k l0 a1 = some r) :
    Calls Try.prog 20 #[.slice A0 l0.length c0, .int .i64 a1] w fun e w' => e = .returned (.int .i64 r) ∧ Drawn0 w w' := by
  have HR0 := Aside0.mk hr0
  have HC0 := Aside0.mk hc0
  clear hr0 hc0
  have H : ((corebankref14_Check.f k l0).bind fun t252 => (if t252 = 0 then (corebankref14_Rate.l0 k l0 a1 0 0) else (some 0))) = some r := h
  clear h
  replace H := Option.bind_eq_some_iff.mp H
  obtain ⟨t252, A30, H⟩ := H
  replace H : (if t252 = 0 then (corebankref14_Rate.l0 k l0 a1 0 0) else (some 0)) = some r := H
  have A3 := Aside0.mk A30
  clear A30
  by_cases c4 : t252 = 0
  · rw [if_pos c4] at H
    have c4b0 : (t252 == 0) = true := beq_iff_eq.mpr c4
    have c4b1 : (t252 != 0) = false := bne_eq_false_iff_eq.mpr c4
    clear c4
    have H' := Aside0.mk H
    clear H
    go_enter Try.func20, Try.ntmps20
    go_wp2_with (first | (go_at_call 17; (with_reducible refine (corebankref14_Check.calls k _ _ l0 t252 _ ?side1 ?side2 A3.out).mono ?_); (case side1 => repeat (first | exact HR0.out | (with_reducible refine Kd.C_alloc ?_ _) | (with_reducible refine Kd.C_drewN ?_ _) | (with_reducible refine Kd.C_drew ?_))); (case side2 => exact HC0.out); rintro e w' ⟨rfl, ⟨nd, rfl⟩⟩; (try first | exact ⟨rfl, _, World.drewN_drewN _ _ _⟩ | exact ⟨rfl, _, Eq.trans (World.drewN_drewN _ _ _) (congrArg (World.drewN _) (Nat.add_assoc _ _ _))⟩)))
    repeat (go_quiet (first | (go_at_call 17; (with_reducible refine (corebankref14_Check.calls k _ _ l0 t252 _ ?side1 ?side2 A3.out).mono ?_); (case side1 => repeat (first | exact HR0.out | (with_reducible refine Kd.C_alloc ?_ _) | (with_reducible refine Kd.C_drewN ?_ _) | (with_reducible refine Kd.C_drew ?_))); (case side2 => exact HC0.out); rintro e w' ⟨rfl, ⟨nd, rfl⟩⟩; (try first | exact ⟨rfl, _, World.drewN_drewN _ _ _⟩ | exact ⟨rfl, _, Eq.trans (World.drewN_drewN _ _ _) (congrArg (World.drewN _) (Nat.add_assoc _ _ _))⟩))); try go_wp2_with (first | (go_at_call 17; (with_reducible refine (corebankref14_Check.calls k _ _ l0 t252 _ ?side1 ?side2 A3.out).mono ?_); (case side1 => repeat (first | exact HR0.out | (with_reducible refine Kd.C_alloc ?_ _) | (with_reducible refine Kd.C_drewN ?_ _) | (with_reducible refine Kd.C_drew ?_))); (case side2 => exact HC0.out); rintro e w' ⟨rfl, ⟨nd, rfl⟩⟩; (try first | exact ⟨rfl, _, World.drewN_drewN _ _ _⟩ | exact ⟨rfl, _, Eq.trans (World.drewN_drewN _ _ _) (congrArg (World.drewN _) (Nat.add_assoc _ _ _))⟩))))
    go_loopg [5, 6] k (fun kq v5 v6 w' => ∃ (x5_1 : Int) (x6_1 : Int), v5 = .int .i64 x5_1 ∧ v6 = .int .i64 x6_1 ∧ Aside0 (corebankref14_Rate.l0 kq l0 a1 x5_1 x6_1 = some r) ∧ Aside0 (kq ≤ k) ∧ Drawn0 w w')
    case atStart => exact ⟨(0), (0), (by first | rfl | (simp; done) | (simp [*]; done)), (by first | rfl | (simp; done) | (simp [*]; done)), H', ⟨Nat.le_refl _⟩, by repeat (first | exact Drawn0.refl _ | apply Drawn0.step)⟩
    case round =>
      clear H'
      try clear c2
      try clear p2
      try clear c4
      try clear c4b0
      try clear c4b1
      obtain ⟨x5_1, x6_1, rfl, rfl, HA, HK1, ⟨m1, rfl⟩⟩ := hrel
      cases gk with
      | zero => exact absurd HA.out (by simp [corebankref14_Rate.l0])
      | succ k1 =>
        have H := HA.out
        clear HA
        simp only [corebankref14_Rate.l0] at H
        by_cases c5 : x6_1 < (l0.length : Int)
        · rw [if_pos c5] at H
          have c5b0 : decide (x6_1 < (l0.length : Int)) = true := decide_eq_true c5
          clear c5
          by_cases c6 : 0 ≤ x6_1
          · rw [if_pos c6] at H
            have c6b0 : decide (0 ≤ x6_1) = true := decide_eq_true c6
            clear c6
            replace H := Option.bind_eq_some_iff.mp H
            obtain ⟨t254, A70, H⟩ := H
            replace H : (if ((rd_T50 l0 x6_1).f0) ≤ t254 then (corebankref14_Rate.l0 k1 l0 a1 ((rd_T50 l0 x6_1).f1) (wrap64 (x6_1 + 1))) else (corebankref14_Rate.l0 k1 l0 a1 x5_1 (wrap64 (x6_1 + 1)))) = some r := H
            have A7 := Aside0.mk A70
            clear A70
            by_cases c8 : ((rd_T50 l0 x6_1).f0) ≤ t254
            · rw [if_pos c8] at H
              have c8b0 : decide (((rd_T50 l0 x6_1).f0) ≤ t254) = true := decide_eq_true c8
              clear c8
              have H' := Aside0.mk H
              clear H
              have p253 : 0 ≤ (x6_1 : Int) := of_decide_eq_true (by first | (with_reducible assumption) | assumption)
              have q253 : x6_1 < (l0.length : Int) := of_decide_eq_true (by first | (with_reducible assumption) | assumption)
              obtain ⟨ad253, e253, hx253_0, hx253_1⟩ := at_T50 HR0.out x6_1 p253 q253
              cases e253
              replace p253 := eq_true p253
              replace q253 := eq_true q253
              go_wp2_with (first | (go_at_call 26; (with_reducible refine (corebankref14_Size.calls a1 t254 _ A7.out).mono ?_); rintro e w' ⟨rfl, ⟨nd, rfl⟩⟩; (try first | exact ⟨rfl, _, World.drewN_drewN _ _ _⟩ | exact ⟨rfl, _, Eq.trans (World.drewN_drewN _ _ _) (congrArg (World.drewN _) (Nat.add_assoc _ _ _))⟩); have p255 : 0 ≤ (x6_1 : Int) := of_decide_eq_true (by first | (with_reducible assumption) | assumption); have q255 : x6_1 < (l0.length : Int) := of_decide_eq_true (by first | (with_reducible assumption) | assumption); obtain ⟨ad255, e255, hx255_0, hx255_1⟩ := at_T50 HR0.out x6_1 p255 q255; obtain rfl : ad253 = ad255 := (by injection e255); replace p255 := eq_true p255; replace q255 := eq_true q255))
              repeat (go_quiet (first | (go_at_call 26; (with_reducible refine (corebankref14_Size.calls a1 t254 _ A7.out).mono ?_); rintro e w' ⟨rfl, ⟨nd, rfl⟩⟩; (try first | exact ⟨rfl, _, World.drewN_drewN _ _ _⟩ | exact ⟨rfl, _, Eq.trans (World.drewN_drewN _ _ _) (congrArg (World.drewN _) (Nat.add_assoc _ _ _))⟩); have p255 : 0 ≤ (x6_1 : Int) := of_decide_eq_true (by first | (with_reducible assumption) | assumption); have q255 : x6_1 < (l0.length : Int) := of_decide_eq_true (by first | (with_reducible assumption) | assumption); obtain ⟨ad255, e255, hx255_0, hx255_1⟩ := at_T50 HR0.out x6_1 p255 q255; obtain rfl : ad253 = ad255 := (by injection e255); replace p255 := eq_true p255; replace q255 := eq_true q255)); try go_wp2_with (first | (go_at_call 26; (with_reducible refine (corebankref14_Size.calls a1 t254 _ A7.out).mono ?_); rintro e w' ⟨rfl, ⟨nd, rfl⟩⟩; (try first | exact ⟨rfl, _, World.drewN_drewN _ _ _⟩ | exact ⟨rfl, _, Eq.trans (World.drewN_drewN _ _ _) (congrArg (World.drewN _) (Nat.add_assoc _ _ _))⟩); have p255 : 0 ≤ (x6_1 : Int) := of_decide_eq_true (by first | (with_reducible assumption) | assumption); have q255 : x6_1 < (l0.length : Int) := of_decide_eq_true (by first | (with_reducible assumption) | assumption); obtain ⟨ad255, e255, hx255_0, hx255_1⟩ := at_T50 HR0.out x6_1 p255 q255; obtain rfl : ad253 = ad255 := (by injection e255); replace p255 := eq_true p255; replace q255 := eq_true q255)))
              go_roundg k1
              case measure => have := HK1.out; omega
              case rel => exact ⟨((rd_T50 l0 x6_1).f1), (wrap64 (x6_1 + 1)), (by first | rfl | (simp; done) | (simp [*]; done)), (by first | rfl | (simp; done) | (simp [*]; done)), H', ⟨by have := HK1.out; omega⟩, by repeat (first | exact Drawn0.refl _ | apply Drawn0.step)⟩
            · rw [if_neg c8] at H
              have c8b0 : decide (((rd_T50 l0 x6_1).f0) ≤ t254) = false := decide_eq_false c8
              clear c8
              have H' := Aside0.mk H
              clear H
              have p253 : 0 ≤ (x6_1 : Int) := of_decide_eq_true (by first | (with_reducible assumption) | assumption)
              have q253 : x6_1 < (l0.length : Int) := of_decide_eq_true (by first | (with_reducible assumption) | assumption)
              obtain ⟨ad253, e253, hx253_0, hx253_1⟩ := at_T50 HR0.out x6_1 p253 q253
              cases e253
              replace p253 := eq_true p253
              replace q253 := eq_true q253
              go_wp2_with (first | (go_at_call 26; (with_reducible refine (corebankref14_Size.calls a1 t254 _ A7.out).mono ?_); rintro e w' ⟨rfl, ⟨nd, rfl⟩⟩; (try first | exact ⟨rfl, _, World.drewN_drewN _ _ _⟩ | exact ⟨rfl, _, Eq.trans (World.drewN_drewN _ _ _) (congrArg (World.drewN _) (Nat.add_assoc _ _ _))⟩)))
              repeat (go_quiet (first | (go_at_call 26; (with_reducible refine (corebankref14_Size.calls a1 t254 _ A7.out).mono ?_); rintro e w' ⟨rfl, ⟨nd, rfl⟩⟩; (try first | exact ⟨rfl, _, World.drewN_drewN _ _ _⟩ | exact ⟨rfl, _, Eq.trans (World.drewN_drewN _ _ _) (congrArg (World.drewN _) (Nat.add_assoc _ _ _))⟩))); try go_wp2_with (first | (go_at_call 26; (with_reducible refine (corebankref14_Size.calls a1 t254 _ A7.out).mono ?_); rintro e w' ⟨rfl, ⟨nd, rfl⟩⟩; (try first | exact ⟨rfl, _, World.drewN_drewN _ _ _⟩ | exact ⟨rfl, _, Eq.trans (World.drewN_drewN _ _ _) (congrArg (World.drewN _) (Nat.add_assoc _ _ _))⟩))))
              go_roundg k1
              case measure => have := HK1.out; omega
              case rel => exact ⟨(x5_1), (wrap64 (x6_1 + 1)), (by first | rfl | (simp; done) | (simp [*]; done)), (by first | rfl | (simp; done) | (simp [*]; done)), H', ⟨by have := HK1.out; omega⟩, by repeat (first | exact Drawn0.refl _ | apply Drawn0.step)⟩
          · rw [if_neg c6] at H
            exact absurd H (by simp)
        · rw [if_neg c5] at H
          have c5b0 : decide (x6_1 < (l0.length : Int)) = false := decide_eq_false c5
          clear c5
          obtain rfl := Option.some.inj H
          go_wp2
          repeat (go_quiet (fail); try go_wp2)
          go_ret
          exact ⟨by first | rfl | (simp; done) | (simp [*]; done), by repeat (first | exact Drawn0.refl _ | apply Drawn0.step)⟩
  · rw [if_neg c4] at H
    have c4b0 : (t252 == 0) = false := beq_eq_false_iff_ne.mpr c4
    have c4b1 : (t252 != 0) = true := bne_iff_ne.mpr c4
    obtain rfl := Option.some.inj H
    go_enter Try.func20, Try.ntmps20
    go_wp2_with (first | (go_at_call 17; (with_reducible refine (corebankref14_Check.calls k _ _ l0 t252 _ ?side1 ?side2 A3.out).mono ?_); (case side1 => repeat (first | exact HR0.out | (with_reducible refine Kd.C_alloc ?_ _) | (with_reducible refine Kd.C_drewN ?_ _) | (with_reducible refine Kd.C_drew ?_))); (case side2 => exact HC0.out); rintro e w' ⟨rfl, ⟨nd, rfl⟩⟩; (try first | exact ⟨rfl, _, World.drewN_drewN _ _ _⟩ | exact ⟨rfl, _, Eq.trans (World.drewN_drewN _ _ _) (congrArg (World.drewN _) (Nat.add_assoc _ _ _))⟩)))
    repeat (go_quiet (first | (go_at_call 17; (with_reducible refine (corebankref14_Check.calls k _ _ l0 t252 _ ?side1 ?side2 A3.out).mono ?_); (case side1 => repeat (first | exact HR0.out | (with_reducible refine Kd.C_alloc ?_ _) | (with_reducible refine Kd.C_drewN ?_ _) | (with_reducible refine Kd.C_drew ?_))); (case side2 => exact HC0.out); rintro e w' ⟨rfl, ⟨nd, rfl⟩⟩; (try first | exact ⟨rfl, _, World.drewN_drewN _ _ _⟩ | exact ⟨rfl, _, Eq.trans (World.drewN_drewN _ _ _) (congrArg (World.drewN _) (Nat.add_assoc _ _ _))⟩))); try go_wp2_with (first | (go_at_call 17; (with_reducible refine (corebankref14_Check.calls k _ _ l0 t252 _ ?side1 ?side2 A3.out).mono ?_); (case side1 => repeat (first | exact HR0.out | (with_reducible refine Kd.C_alloc ?_ _) | (with_reducible refine Kd.C_drewN ?_ _) | (with_reducible refine Kd.C_drew ?_))); (case side2 => exact HC0.out); rintro e w' ⟨rfl, ⟨nd, rfl⟩⟩; (try first | exact ⟨rfl, _, World.drewN_drewN _ _ _⟩ | exact ⟨rfl, _, Eq.trans (World.drewN_drewN _ _ _) (congrArg (World.drewN _) (Nat.add_assoc _ _ _))⟩))))
    go_ret
    exact ⟨by first | rfl | (simp; done) | (simp [*]; done), by repeat (first | exact Drawn0.refl _ | apply Drawn0.step)⟩

/-! ### corebanklaw14_TierRates: function 4 -/
def corebanklaw14_TierRates.f (k : Nat) (l0 : List (S50)) (a1 : Int) : Option (Bool) := if (l0.length : Int) > 100 then ((corebanklaw14_live.f).bind fun t256 => (some t256)) else ((tier_Rate.f k l0 a1).bind fun t257 => ((corebankref14_Rate.f k l0 a1).bind fun t258 => (if t257 = t258 then ((corebanklaw14_live.f).bind fun t259 => (some t259)) else (some false))))
theorem corebanklaw14_TierRates.mono : ∀ a0 a1 k, LeO (corebanklaw14_TierRates.f k a0 a1) (corebanklaw14_TierRates.f (k + 1) a0 a1) := by
  intro a0 a1 k
  unfold corebanklaw14_TierRates.f
  repeat' first
      | (with_reducible exact corebankref14_Rate.mono _ _ _)
      | (with_reducible exact tier_Rate.mono _ _ _)
      | (with_reducible exact LeO.refl _)
      | (with_reducible exact LeO.none _)
      | (with_reducible refine LeO.ite ?_ ?_)
      | (with_reducible refine LeO.bind ?_ (fun _ => ?_))
      | exact corebankref14_Rate.mono _ _ _
      | exact tier_Rate.mono _ _ _
      | exact LeO.none _
      | refine LeO.ite ?_ ?_
      | refine LeO.bind ?_ (fun _ => ?_)
set_option maxHeartbeats 8000000 in
set_option maxRecDepth 100000 in
theorem corebanklaw14_TierRates.calls (k : Nat) (A0 : Option Addr) (c0 : Nat) (l0 : List (S50)) (a1 : Int) (r : Bool) (w : World) (hr0 : Kd.C k50 w A0 l0.length l0) (hc0 : l0.length ≤ c0) (hT : r = true) (h : corebanklaw14_TierRates.f k l0 a1 = some r) :
    Calls Try.prog 4 #[.slice A0 l0.length c0, .int .i64 a1] w fun e w' => e = .returned (.bool r) ∧ Below w.heap.size w w' := by
  have HR0 := Aside0.mk hr0
  have HC0 := Aside0.mk hc0
  clear hr0 hc0
  have HB := Aside0.mk (Below.refl w.heap.size w)
  have HT := Aside0.mk hT
  clear hT
  have H : (if (l0.length : Int) > 100 then ((corebanklaw14_live.f).bind fun t256 => (some t256)) else ((tier_Rate.f k l0 a1).bind fun t257 => ((corebankref14_Rate.f k l0 a1).bind fun t258 => (if t257 = t258 then ((corebanklaw14_live.f).bind fun t259 => (some t259)) else (some false))))) = some r := h
  clear h
  by_cases c3 : (l0.length : Int) > 100
  · rw [if_pos c3] at H
    have c3b0 : decide (100 < (l0.length : Int)) = true := decide_eq_true c3
    have c3b1 : decide (100 < l0.length) = true := decide_eq_true (by omega)
    clear c3
    replace H := Option.bind_eq_some_iff.mp H
    obtain ⟨t256, A40, H⟩ := H
    replace H : (some t256) = some r := H
    have A4 := Aside0.mk A40
    clear A40
    obtain rfl := Option.some.inj H
    go_enter Try.func4, Try.ntmps4
    go_wp2_with (first | (go_at_call 18; (with_reducible refine (corebanklaw14_live.calls  t256 _ A4.out).mono ?_); rintro e w5 ⟨rfl, hb⟩; replace HB := bs HB hb; (try clear hb); (try clear hb2); (try clear hk); (try clear hi)))
    go_ret
    exact ⟨by first | rfl | (simp [errW_none, errW_some] <;> rfl) | (simp [*, errW_none, errW_some] <;> rfl), hq HB⟩
  · rw [if_neg c3] at H
    have c3b0 : decide (100 < (l0.length : Int)) = false := decide_eq_false c3
    have c3b1 : decide (100 < l0.length) = false := decide_eq_false (by omega)
    clear c3
    replace H := Option.bind_eq_some_iff.mp H
    obtain ⟨t257, A60, H⟩ := H
    replace H : ((corebankref14_Rate.f k l0 a1).bind fun t258 => (if t257 = t258 then ((corebanklaw14_live.f).bind fun t259 => (some t259)) else (some false))) = some r := H
    have A6 := Aside0.mk A60
    clear A60
    replace H := Option.bind_eq_some_iff.mp H
    obtain ⟨t258, A70, H⟩ := H
    replace H : (if t257 = t258 then ((corebanklaw14_live.f).bind fun t259 => (some t259)) else (some false)) = some r := H
    have A7 := Aside0.mk A70
    clear A70
    by_cases c8 : t257 = t258
    · rw [if_pos c8] at H
      have c8b0 : (t257 == t258) = true := beq_iff_eq.mpr c8
      have c8b1 : (t257 != t258) = false := bne_eq_false_iff_eq.mpr c8
      clear c8
      replace H := Option.bind_eq_some_iff.mp H
      obtain ⟨t259, A90, H⟩ := H
      replace H : (some t259) = some r := H
      have A9 := Aside0.mk A90
      clear A90
      obtain rfl := Option.some.inj H
      go_enter Try.func4, Try.ntmps4
      go_wp2_with (first | (go_at_call 19; (with_reducible refine (tier_Rate.calls k _ _ l0 a1 t257 _ ?side1 ?side2 A6.out).mono ?_); (case side1 => repeat (first | exact HR0.out | (with_reducible refine Kd.C_alloc ?_ _) | (with_reducible refine Kd.C_drewN ?_ _) | (with_reducible refine Kd.C_drew ?_))); (case side2 => exact HC0.out); rintro e w10 ⟨rfl, hb⟩; replace HB := bs HB hb; (try clear hb); (try clear hb2); (try clear hk); (try clear hi)) | (go_at_call 20; (with_reducible refine (corebankref14_Rate.calls k _ _ l0 a1 t258 _ ?side1 ?side2 A7.out).mono ?_); (case side1 => repeat (first | exact (Kd.C_below HR0.out HB.out) | (with_reducible refine Kd.C_alloc ?_ _) | (with_reducible refine Kd.C_drewN ?_ _) | (with_reducible refine Kd.C_drew ?_))); (case side2 => exact HC0.out); rintro e w' ⟨rfl, ⟨nd, rfl⟩⟩) | (go_at_call 18; (with_reducible refine (corebanklaw14_live.calls  t259 _ A9.out).mono ?_); rintro e w11 ⟨rfl, hb⟩; replace HB := bs HB hb; (try clear hb); (try clear hb2); (try clear hk); (try clear hi)))
      go_ret
      exact ⟨by first | rfl | (simp [errW_none, errW_some] <;> rfl) | (simp [*, errW_none, errW_some] <;> rfl), hq HB⟩
    · rw [if_neg c8] at H
      have c8b0 : (t257 == t258) = false := beq_eq_false_iff_ne.mpr c8
      have c8b1 : (t257 != t258) = true := bne_iff_ne.mpr c8
      exact absurd ((Option.some.inj H).trans HT.out) (by decide)

end Go.Proofs.Ytlmabdiodopidaa.P
end
